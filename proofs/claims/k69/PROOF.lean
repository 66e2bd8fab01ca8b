import PyProof.Rows.All
import Wide.All
import OpenK.AllK
import Wide.FinOn
import HandS.Base
import HandS.Call
import HandS.List
import HandS.Comp
import HandS.Dict
import HandS.Iter
import HandS.Text
import HandS.Walk
import HandS.Words
import HandS.Defaults
import HandS.Style
import HandS.Flow
import HandS.IsInst
import HandS.Codes
import HandS.Replace
import HandS.Conv
import HandS.Deep
import HandS.StrMore
import HandS.HeadHook2
import PyProof.StrOps2
import HandS.Sort
import KE.KRevSl
import KE.SortData
import HandS.DictComp
import HandS.TupLe
import PyProof.P3In
import HandS.WideBits
import KE.KStateDown
import Lean
import HandS.Ends
import HandS.More
import HandS.WordsExc
import HandS.Head0
import HandS.Head1
import HandS.Head2
import HandS.HeadEnd
import HandS.HeadHook1
import PySem.Challenge.RW_leastwords_k69_whole_words_without_borde
set_option Elab.async false
set_option linter.all false
set_option maxRecDepth 100000
set_option maxHeartbeats 4000000
/-! VL: a value layer over HandS. Data without addresses; what a def owns and may change; one rule a construct. -/
namespace VL
open PySem PySem.Spec PyProof.Rows L2
theorem _root_.List.set_getElem_self_of {α : Type} : ∀ {l : List α} {i : Nat} {x y : α}, l[i]? = some x → x = y → l = l.set i y
  | [], _, _, _, e, _ => by simp at e
  | z :: l, 0, x, y, e, h => by
    simp at e
    subst e
    subst h
    rfl
  | z :: l, i + 1, x, y, e, h => by
    have := List.set_getElem_self_of (l := l) (i := i) (by simpa using e) h
    show z :: l = z :: l.set i y
    rw [← this]

/-- data: a plain value, a tuple, a list, a dict (keys ints and texts; keys tuples of such) -/
inductive D where
  | v (x : V)
  | tup (l : List D)
  | lst (l : List D)
  | dK (ks : List Key) (l : List D)
  | dT (ks : List (List Key)) (l : List D)
  | rng (lo hi : Int)

abbrev Own := Addr → Prop
abbrev H00 : Hp := fun _ => none
def SqTO (K : PySem.W.Frag) (O : Own) (H : Hp) (a : Addr) (xs : List V) : Prop := (¬ O a ∧ Rd H a (.tup xs)) ∨ SqT K H00 a xs
def SqLO (K : PySem.W.Frag) (O : Own) (H : Hp) (a : Addr) (xs : List V) : Prop := (¬ O a ∧ Rd H a (.lst xs)) ∨ SqL K H00 a xs
def zipK {κ : Type} (ks : List κ) (us : List V) : List (κ × V) := ks.zip us

mutual
/-- the value v bears the data d, and leans on nothing that O owns -/
def Rep (K : PySem.W.Frag) (O : Own) (H : Hp) : D → V → Prop
  | .v x, u => u = x
  | .tup l, u => ∃ a vs, u = .ref a ∧ SqTO K O H a vs ∧ Reps K O H l vs
  | .lst l, u => ∃ a vs, u = .ref a ∧ SqLO K O H a vs ∧ Reps K O H l vs
  | .dK ks l, u => ∃ a vs, u = .ref a ∧ ¬ O a ∧ Rd H a (.dK (zipK ks vs)) ∧ ks.length = vs.length ∧ Reps K O H l vs
  | .dT ks l, u => ∃ a vs, u = .ref a ∧ ¬ O a ∧ Rd H a (.dT (zipK ks vs)) ∧ ks.length = vs.length ∧ Reps K O H l vs
  | .rng lo hi, u => ∃ a, u = .ref a ∧ ¬ O a ∧ Rd H a (.rng lo hi)
def Reps (K : PySem.W.Frag) (O : Own) (H : Hp) : List D → List V → Prop
  | [], vs => vs = []
  | d :: r, vs => ∃ u us, vs = u :: us ∧ Rep K O H d u ∧ Reps K O H r us
end

/-- what is not owned stays -/
def Keep (O : Own) (H H' : Hp) : Prop := ∀ a o, ¬ O a → H a = some o → H' a = some o
/-- all that is tracked stays -/
def Ext (H H' : Hp) : Prop := ∀ a o, H a = some o → H' a = some o
theorem Keep.refl {O : Own} (H : Hp) : Keep O H H := fun _ _ _ h => h
theorem Keep.trans {O : Own} {H H1 H2 : Hp} (a : Keep O H H1) (b : Keep O H1 H2) : Keep O H H2 := fun x o n h => b x o n (a x o n h)
theorem Ext.keep {O : Own} {H H' : Hp} (e : Ext H H') : Keep O H H' := fun a o _ h => e a o h
theorem Ext.refl (H : Hp) : Ext H H := fun _ _ h => h
theorem Ext.trans {H H1 H2 : Hp} (a : Ext H H1) (b : Ext H1 H2) : Ext H H2 := fun x o h => b x o (a x o h)
theorem Ext.new {H : Hp} {p : Addr} {o : HO} (h : H p = none) : Ext H (upd H p o) := fun a u e => by
  rw [upd_ne (ne_of_none e h)]; exact e
theorem rd_keep {O : Own} {H H' : Hp} {a : Addr} {u : HO} (k : Keep O H H') (n : ¬ O a) (h : Rd H a u) : Rd H' a u := by
  rcases h with h | ⟨o, h⟩
  · exact .inl (k a _ n h)
  · exact .inr ⟨o, k a _ n h⟩
def addO (O : Own) (p : Addr) : Own := fun a => O a ∨ a = p
theorem rd_dom {H : Hp} {a : Addr} {u : HO} (h : Rd H a u) : H a ≠ none := by
  rcases h with h | ⟨o, h⟩ <;> (rw [h]; exact fun z => nomatch z)

section
variable {K : PySem.W.Frag} {O O' : Own} {H H' : Hp} {p : Addr}
theorem SqTO.keep {a : Addr} {xs : List V} (k : Keep O H H') (h : SqTO K O H a xs) : SqTO K O H' a xs := by
  rcases h with ⟨n, h⟩ | h
  · exact .inl ⟨n, rd_keep k n h⟩
  · exact .inr h
theorem SqLO.keep {a : Addr} {xs : List V} (k : Keep O H H') (h : SqLO K O H a xs) : SqLO K O H' a xs := by
  rcases h with ⟨n, h⟩ | h
  · exact .inl ⟨n, rd_keep k n h⟩
  · exact .inr h
theorem SqTO.less {a : Addr} {xs : List V} (k : ∀ a, O' a → O a) (h : SqTO K O H a xs) : SqTO K O' H a xs := by
  rcases h with ⟨n, h⟩ | h
  · exact .inl ⟨fun z => n (k a z), h⟩
  · exact .inr h
theorem SqLO.less {a : Addr} {xs : List V} (k : ∀ a, O' a → O a) (h : SqLO K O H a xs) : SqLO K O' H a xs := by
  rcases h with ⟨n, h⟩ | h
  · exact .inl ⟨fun z => n (k a z), h⟩
  · exact .inr h
theorem not_add {a : Addr} {u : HO} (n : ¬ O a) (h : Rd H a u) (hp : H p = none) : ¬ addO O p a := by
  rintro (z | rfl)
  · exact n z
  · exact rd_dom h hp
theorem SqTO.more {a : Addr} {xs : List V} (hp : H p = none) (h : SqTO K O H a xs) : SqTO K (addO O p) H a xs := by
  rcases h with ⟨n, h⟩ | h
  · exact .inl ⟨not_add n h hp, h⟩
  · exact .inr h
theorem SqLO.more {a : Addr} {xs : List V} (hp : H p = none) (h : SqLO K O H a xs) : SqLO K (addO O p) H a xs := by
  rcases h with ⟨n, h⟩ | h
  · exact .inl ⟨not_add n h hp, h⟩
  · exact .inr h
theorem SqTO.sq {a : Addr} {xs : List V} (h : SqTO K O H a xs) : SqT K H a xs := by
  rcases h with ⟨_, h⟩ | h
  · exact .inl h
  · rcases h with h | h
    · exact absurd rfl (rd_dom h)
    · exact .inr h
theorem SqLO.sq {a : Addr} {xs : List V} (h : SqLO K O H a xs) : SqL K H a xs := by
  rcases h with ⟨_, h⟩ | h
  · exact .inl h
  · rcases h with h | h
    · exact absurd rfl (rd_dom h)
    · exact .inr h

mutual
theorem Rep.keep (k : Keep O H H') : ∀ (d : D) (u : V), Rep K O H d u → Rep K O H' d u
  | .v _, _, h => by unfold Rep at h ⊢; exact h
  | .tup l, _, h => by
    unfold Rep at h ⊢
    obtain ⟨a, vs, e, s, r⟩ := h
    exact ⟨a, vs, e, s.keep k, Reps.keep k l vs r⟩
  | .lst l, _, h => by
    unfold Rep at h ⊢
    obtain ⟨a, vs, e, s, r⟩ := h
    exact ⟨a, vs, e, s.keep k, Reps.keep k l vs r⟩
  | .dK _ l, _, h => by
    unfold Rep at h ⊢
    obtain ⟨a, vs, e, n, s, hl, r⟩ := h
    exact ⟨a, vs, e, n, rd_keep k n s, hl, Reps.keep k l vs r⟩
  | .dT _ l, _, h => by
    unfold Rep at h ⊢
    obtain ⟨a, vs, e, n, s, hl, r⟩ := h
    exact ⟨a, vs, e, n, rd_keep k n s, hl, Reps.keep k l vs r⟩
  | .rng _ _, _, h => by
    unfold Rep at h ⊢
    obtain ⟨a, e, n, s⟩ := h
    exact ⟨a, e, n, rd_keep k n s⟩
theorem Reps.keep (k : Keep O H H') : ∀ (l : List D) (us : List V), Reps K O H l us → Reps K O H' l us
  | [], _, h => by unfold Reps at h ⊢; exact h
  | d :: r, _, h => by
    unfold Reps at h ⊢
    obtain ⟨u, us, e, h1, h2⟩ := h
    exact ⟨u, us, e, Rep.keep k d u h1, Reps.keep k r us h2⟩
end
mutual
theorem Rep.less (k : ∀ a, O' a → O a) : ∀ (d : D) (u : V), Rep K O H d u → Rep K O' H d u
  | .v _, _, h => by unfold Rep at h ⊢; exact h
  | .tup l, _, h => by
    unfold Rep at h ⊢
    obtain ⟨a, vs, e, s, r⟩ := h
    exact ⟨a, vs, e, s.less k, Reps.less k l vs r⟩
  | .lst l, _, h => by
    unfold Rep at h ⊢
    obtain ⟨a, vs, e, s, r⟩ := h
    exact ⟨a, vs, e, s.less k, Reps.less k l vs r⟩
  | .dK _ l, _, h => by
    unfold Rep at h ⊢
    obtain ⟨a, vs, e, n, s, hl, r⟩ := h
    exact ⟨a, vs, e, fun z => n (k a z), s, hl, Reps.less k l vs r⟩
  | .dT _ l, _, h => by
    unfold Rep at h ⊢
    obtain ⟨a, vs, e, n, s, hl, r⟩ := h
    exact ⟨a, vs, e, fun z => n (k a z), s, hl, Reps.less k l vs r⟩
  | .rng _ _, _, h => by
    unfold Rep at h ⊢
    obtain ⟨a, e, n, s⟩ := h
    exact ⟨a, e, fun z => n (k a z), s⟩
theorem Reps.less (k : ∀ a, O' a → O a) : ∀ (l : List D) (us : List V), Reps K O H l us → Reps K O' H l us
  | [], _, h => by unfold Reps at h ⊢; exact h
  | d :: r, _, h => by
    unfold Reps at h ⊢
    obtain ⟨u, us, e, h1, h2⟩ := h
    exact ⟨u, us, e, Rep.less k d u h1, Reps.less k r us h2⟩
end
mutual
theorem Rep.more (hp : H p = none) : ∀ (d : D) (u : V), Rep K O H d u → Rep K (addO O p) H d u
  | .v _, _, h => by unfold Rep at h ⊢; exact h
  | .tup l, _, h => by
    unfold Rep at h ⊢
    obtain ⟨a, vs, e, s, r⟩ := h
    exact ⟨a, vs, e, s.more hp, Reps.more hp l vs r⟩
  | .lst l, _, h => by
    unfold Rep at h ⊢
    obtain ⟨a, vs, e, s, r⟩ := h
    exact ⟨a, vs, e, s.more hp, Reps.more hp l vs r⟩
  | .dK _ l, _, h => by
    unfold Rep at h ⊢
    obtain ⟨a, vs, e, n, s, hl, r⟩ := h
    exact ⟨a, vs, e, not_add n s hp, s, hl, Reps.more hp l vs r⟩
  | .dT _ l, _, h => by
    unfold Rep at h ⊢
    obtain ⟨a, vs, e, n, s, hl, r⟩ := h
    exact ⟨a, vs, e, not_add n s hp, s, hl, Reps.more hp l vs r⟩
  | .rng _ _, _, h => by
    unfold Rep at h ⊢
    obtain ⟨a, e, n, s⟩ := h
    exact ⟨a, e, not_add n s hp, s⟩
theorem Reps.more (hp : H p = none) : ∀ (l : List D) (us : List V), Reps K O H l us → Reps K (addO O p) H l us
  | [], _, h => by unfold Reps at h ⊢; exact h
  | d :: r, _, h => by
    unfold Reps at h ⊢
    obtain ⟨u, us, e, h1, h2⟩ := h
    exact ⟨u, us, e, Rep.more hp d u h1, Reps.more hp r us h2⟩
end
theorem rep_v {x u : V} : Rep K O H (.v x) u ↔ u = x := by unfold Rep; exact Iff.rfl
theorem rep_tup {l : List D} {u : V} : Rep K O H (.tup l) u ↔ ∃ a vs, u = .ref a ∧ SqTO K O H a vs ∧ Reps K O H l vs := by
  rw [Rep]
theorem rep_lst {l : List D} {u : V} : Rep K O H (.lst l) u ↔ ∃ a vs, u = .ref a ∧ SqLO K O H a vs ∧ Reps K O H l vs := by
  rw [Rep]
theorem rep_dK {ks : List Key} {l : List D} {u : V} : Rep K O H (.dK ks l) u ↔ ∃ a vs, u = .ref a ∧ ¬ O a ∧ Rd H a (.dK (zipK ks vs)) ∧ ks.length = vs.length ∧ Reps K O H l vs := by
  rw [Rep]
theorem rep_dT {ks : List (List Key)} {l : List D} {u : V} : Rep K O H (.dT ks l) u ↔ ∃ a vs, u = .ref a ∧ ¬ O a ∧ Rd H a (.dT (zipK ks vs)) ∧ ks.length = vs.length ∧ Reps K O H l vs := by
  rw [Rep]
theorem rep_rng {lo hi : Int} {u : V} : Rep K O H (.rng lo hi) u ↔ ∃ a, u = .ref a ∧ ¬ O a ∧ Rd H a (.rng lo hi) := by
  rw [Rep]
theorem reps_nil {us : List V} : Reps K O H [] us ↔ us = [] := by unfold Reps; exact Iff.rfl
theorem reps_cons {d : D} {l : List D} {us : List V} : Reps K O H (d :: l) us ↔ ∃ u us', us = u :: us' ∧ Rep K O H d u ∧ Reps K O H l us' := by
  conv => lhs; unfold Reps
theorem Reps.cons {d : D} {l : List D} {u : V} {us : List V} (h : Rep K O H d u) (hs : Reps K O H l us) : Reps K O H (d :: l) (u :: us) := reps_cons.mpr ⟨u, us, rfl, h, hs⟩
theorem Reps.nil : Reps K O H [] [] := reps_nil.mpr rfl
theorem Reps.length : ∀ {l : List D} {us : List V}, Reps K O H l us → l.length = us.length
  | [], _, h => by rw [reps_nil.mp h] <;> rfl
  | d :: l, _, h => by
    obtain ⟨u, us', e, _, h2⟩ := reps_cons.mp h
    subst e
    exact congrArg Nat.succ (Reps.length h2)
theorem Reps.get : ∀ {l : List D} {us : List V} {i : Nat} {d : D}, Reps K O H l us → l[i]? = some d → ∃ u, us[i]? = some u ∧ Rep K O H d u
  | [], _, _, _, _, e => by simp at e
  | d :: l, _, 0, d', h, e => by
    obtain ⟨u, us', e1, h1, h2⟩ := reps_cons.mp h
    subst e1
    simp at e
    subst e
    exact ⟨u, rfl, h1⟩
  | d :: l, _, i + 1, d', h, e => by
    obtain ⟨u, us', e1, h1, h2⟩ := reps_cons.mp h
    subst e1
    obtain ⟨w, e2, r⟩ := Reps.get (i := i) h2 (by simpa using e)
    exact ⟨w, by simpa using e2, r⟩
theorem Reps.at : ∀ {l : List D} {us : List V} {i : Nat} {u : V}, Reps K O H l us → us[i]? = some u → ∃ d, l[i]? = some d ∧ Rep K O H d u
  | [], _, _, _, h, e => by rw [reps_nil.mp h] at e; simp at e
  | d :: l, _, 0, u', h, e => by
    obtain ⟨u, us', e1, h1, h2⟩ := reps_cons.mp h
    subst e1
    simp at e
    subst e
    exact ⟨d, rfl, h1⟩
  | d :: l, _, i + 1, u', h, e => by
    obtain ⟨u, us', e1, h1, h2⟩ := reps_cons.mp h
    subst e1
    obtain ⟨w, e2, r⟩ := Reps.at (i := i) h2 (by simpa using e)
    exact ⟨w, by simpa using e2, r⟩
theorem Reps.append : ∀ {l m : List D} {us ws : List V}, Reps K O H l us → Reps K O H m ws → Reps K O H (l ++ m) (us ++ ws)
  | [], _, _, _, h, g => by rw [reps_nil.mp h]; exact g
  | d :: l, _, _, _, h, g => by
    obtain ⟨u, us', e, h1, h2⟩ := reps_cons.mp h
    subst e
    exact Reps.cons h1 (Reps.append h2 g)
theorem Reps.take : ∀ {l : List D} {us : List V} (n : Nat), Reps K O H l us → Reps K O H (l.take n) (us.take n)
  | _, _, 0, _ => Reps.nil
  | [], _, n + 1, h => by rw [reps_nil.mp h]; exact Reps.nil
  | d :: l, _, n + 1, h => by
    obtain ⟨u, us', e, h1, h2⟩ := reps_cons.mp h
    subst e
    exact Reps.cons h1 (Reps.take n h2)
theorem Reps.drop : ∀ {l : List D} {us : List V} (n : Nat), Reps K O H l us → Reps K O H (l.drop n) (us.drop n)
  | _, _, 0, h => h
  | [], _, n + 1, h => by rw [reps_nil.mp h]; exact Reps.nil
  | d :: l, _, n + 1, h => by
    obtain ⟨u, us', e, h1, h2⟩ := reps_cons.mp h
    subst e
    exact Reps.drop n h2
theorem Reps.set : ∀ {l : List D} {us : List V} {d : D} {u : V} (n : Nat), Rep K O H d u → Reps K O H l us → Reps K O H (l.set n d) (us.set n u)
  | [], _, _, _, _, _, h => by rw [reps_nil.mp h]; exact Reps.nil
  | d :: l, _, _, _, 0, r, h => by
    obtain ⟨u, us', e, h1, h2⟩ := reps_cons.mp h
    subst e
    exact Reps.cons r h2
  | d :: l, _, _, _, n + 1, r, h => by
    obtain ⟨u, us', e, h1, h2⟩ := reps_cons.mp h
    subst e
    exact Reps.cons h1 (Reps.set n r h2)
theorem Reps.reverse : ∀ {l : List D} {us : List V}, Reps K O H l us → Reps K O H l.reverse us.reverse
  | [], _, h => by rw [reps_nil.mp h]; exact Reps.nil
  | d :: l, _, h => by
    obtain ⟨u, us', e, h1, h2⟩ := reps_cons.mp h
    subst e
    rw [List.reverse_cons, List.reverse_cons]
    exact Reps.append (Reps.reverse h2) (Reps.cons h1 Reps.nil)
/-- plain values -/
theorem reps_plain : ∀ {l : List V} {us : List V}, Reps K O H (l.map .v) us ↔ us = l
  | [], us => reps_nil
  | x :: l, us => by
    rw [List.map_cons, reps_cons]
    constructor
    · rintro ⟨u, us', e, h1, h2⟩
      rw [rep_v] at h1
      rw [reps_plain] at h2
      rw [e, h1, h2]
    · rintro rfl
      exact ⟨x, l, rfl, rep_v.mpr rfl, reps_plain.mpr rfl⟩
end

/-! ### environments: what a slot holds -/
inductive Sl where
  | un
  | dat (d : D)
  | own (a : Addr) (P : D → Prop)
/-- an owned object: list or dict -/
def OwnAt (K : PySem.W.Frag) (O : Own) (H : Hp) (a : Addr) : D → Prop
  | .lst l => ∃ vs, H a = some (.lst vs) ∧ Reps K O H l vs
  | .dK ks l => ∃ vs, H a = some (.dK (zipK ks vs)) ∧ ks.length = vs.length ∧ Reps K O H l vs
  | .dT ks l => ∃ vs, H a = some (.dT (zipK ks vs)) ∧ ks.length = vs.length ∧ Reps K O H l vs
  | _ => False
def SlotR (K : PySem.W.Frag) (O : Own) (H : Hp) : Sl → Option V → Prop
  | .un, _ => True
  | .dat d, v => ∃ x, v = some x ∧ Rep K O H d x
  | .own a P, v => v = some (.ref a) ∧ O a ∧ ∃ d, P d ∧ OwnAt K O H a d
def EnvR (K : PySem.W.Frag) (O : Own) (H : Hp) : List Sl → List (Option V) → Prop
  | [], [] => True
  | s :: ρ, v :: σ => SlotR K O H s v ∧ EnvR K O H ρ σ
  | _, _ => False
def Apart (ρ : List Sl) : Prop := ∀ (i j : Nat) (a b : Addr) (P Q : D → Prop), i ≠ j → ρ[i]? = some (.own a P) → ρ[j]? = some (.own b Q) → a ≠ b
/-- the objects that the slots own -/
def Owns (ρ : List Sl) (a : Addr) : Prop := ∃ (i : Nat) (P : D → Prop), ρ[i]? = some (.own a P)
/-- all stays but what the slots own -/
def KR (ρ : List Sl) (H H' : Hp) : Prop := ∀ a o, ¬ Owns ρ a → H a = some o → H' a = some o
theorem KR.refl {ρ : List Sl} (H : Hp) : KR ρ H H := fun _ _ _ h => h
theorem KR.trans {ρ : List Sl} {H H1 H2 : Hp} (a : KR ρ H H1) (b : KR ρ H1 H2) : KR ρ H H2 := fun x o n h => b x o n (a x o n h)
theorem Ext.kr {ρ : List Sl} {H H' : Hp} (e : Ext H H') : KR ρ H H' := fun a o _ h => e a o h
/-- what a def's body starts from -/
structure Gm where
  K : PySem.W.Frag
  O0 : Own
  H0 : Hp
  W0 : Own
structure Ok (Γ : Gm) (O : Own) (ρ : List Sl) (σ : L2.St) (H : Hp) : Prop where
  dom : ∀ a, O a → H a ≠ none
  sup : ∀ a, Γ.O0 a → O a
  fr : ∀ a o, ¬ Γ.W0 a → Γ.H0 a = some o → H a = some o
  env : EnvR Γ.K O H ρ σ
  ap : Apart ρ
  ow : ∀ (i : Nat) (a : Addr) (P : D → Prop), ρ[i]? = some (.own a P) → Γ.W0 a ∨ Γ.H0 a = none
  dom0 : ∀ a, Γ.O0 a → Γ.H0 a ≠ none
  wdom : ∀ a, Γ.W0 a → H a ≠ none

section
variable {K : PySem.W.Frag} {O O' : Own} {H H' : Hp} {p a : Addr} {Γ : Gm} {ρ ρ' : List Sl} {σ σ' : L2.St} {d : D}
theorem OwnAt.keepO (k : Keep O H H') (ha : ∀ o, H a = some o → H' a = some o) : OwnAt K O H a d → OwnAt K O H' a d := by
  cases d with
  | lst l => rintro ⟨vs, e, r⟩; exact ⟨vs, ha _ e, r.keep k⟩
  | dK ks l => rintro ⟨vs, e, hl, r⟩; exact ⟨vs, ha _ e, hl, r.keep k⟩
  | dT ks l => rintro ⟨vs, e, hl, r⟩; exact ⟨vs, ha _ e, hl, r.keep k⟩
  | _ => exact fun z => z
theorem OwnAt.less (k : ∀ a, O' a → O a) : OwnAt K O H a d → OwnAt K O' H a d := by
  cases d with
  | lst l => rintro ⟨vs, e, r⟩; exact ⟨vs, e, r.less k⟩
  | dK ks l => rintro ⟨vs, e, hl, r⟩; exact ⟨vs, e, hl, r.less k⟩
  | dT ks l => rintro ⟨vs, e, hl, r⟩; exact ⟨vs, e, hl, r.less k⟩
  | _ => exact fun z => z
theorem OwnAt.more (hp : H p = none) : OwnAt K O H a d → OwnAt K (addO O p) H a d := by
  cases d with
  | lst l => rintro ⟨vs, e, r⟩; exact ⟨vs, e, r.more hp⟩
  | dK ks l => rintro ⟨vs, e, hl, r⟩; exact ⟨vs, e, hl, r.more hp⟩
  | dT ks l => rintro ⟨vs, e, hl, r⟩; exact ⟨vs, e, hl, r.more hp⟩
  | _ => exact fun z => z
theorem OwnAt.dom (h : OwnAt K O H a d) : H a ≠ none := by
  cases d with
  | lst l => obtain ⟨vs, e, r⟩ := h; rw [e]; exact fun z => nomatch z
  | dK ks l => obtain ⟨vs, e, r⟩ := h; rw [e]; exact fun z => nomatch z
  | dT ks l => obtain ⟨vs, e, r⟩ := h; rw [e]; exact fun z => nomatch z
  | _ => exact h.elim
/-- an owned object, no more owned, is data -/
theorem OwnAt.rep (n : ¬ O a) (h : OwnAt K O H a d) : Rep K O H d (.ref a) := by
  cases d with
  | lst l => obtain ⟨vs, e, r⟩ := h; exact rep_lst.mpr ⟨a, vs, rfl, .inl ⟨n, .inl e⟩, r⟩
  | dK ks l => obtain ⟨vs, e, hl, r⟩ := h; exact rep_dK.mpr ⟨a, vs, rfl, n, .inl e, hl, r⟩
  | dT ks l => obtain ⟨vs, e, hl, r⟩ := h; exact rep_dT.mpr ⟨a, vs, rfl, n, .inl e, hl, r⟩
  | _ => exact h.elim
theorem EnvR.len : ∀ {ρ : List Sl} {σ : L2.St}, EnvR K O H ρ σ → ρ.length = σ.length
  | [], [], _ => rfl
  | [], _ :: _, h => h.elim
  | _ :: _, [], h => h.elim
  | _ :: _, _ :: _, h => congrArg Nat.succ (EnvR.len h.2)
theorem EnvR.get : ∀ {ρ : List Sl} {σ : L2.St} {i : Nat} {s : Sl}, EnvR K O H ρ σ → ρ[i]? = some s → ∃ v, σ[i]? = some v ∧ SlotR K O H s v
  | [], _, _, _, _, e => by simp at e
  | _ :: _, [], _, _, h, _ => h.elim
  | s :: ρ, v :: σ, 0, s', h, e => by
    simp at e
    subst e
    exact ⟨v, rfl, h.1⟩
  | s :: ρ, v :: σ, i + 1, s', h, e => by
    obtain ⟨w, e2, r⟩ := EnvR.get (i := i) h.2 (by simpa using e)
    exact ⟨w, by simpa using e2, r⟩
theorem EnvR.set : ∀ {ρ : List Sl} {σ : L2.St} {s : Sl} {v : Option V} (i : Nat), EnvR K O H ρ σ → SlotR K O H s v → EnvR K O H (ρ.set i s) (σ.set i v)
  | [], [], _, _, _, _, _ => trivial
  | [], _ :: _, _, _, _, h, _ => h.elim
  | _ :: _, [], _, _, _, h, _ => h.elim
  | _ :: _, _ :: _, _, _, 0, h, r => ⟨r, h.2⟩
  | _ :: _, _ :: _, _, _, i + 1, h, r => ⟨h.1, EnvR.set i h.2 r⟩
/-- slotwise -/
theorem EnvR.imp : ∀ {ρ : List Sl} {σ : L2.St}, EnvR K O H ρ σ → (∀ (i : Nat) (s : Sl) (v : Option V), ρ[i]? = some s → SlotR K O H s v → SlotR K O' H' s v) → EnvR K O' H' ρ σ
  | [], [], _, _ => trivial
  | [], _ :: _, h, _ => h.elim
  | _ :: _, [], h, _ => h.elim
  | _ :: _, _ :: _, h, f => ⟨f 0 _ _ rfl h.1, EnvR.imp h.2 fun i s v e r => f (i + 1) s v (by simpa using e) r⟩
theorem SlotR.keepO {s : Sl} {v : Option V} (k : Keep O H H') (ha : ∀ a P, s = .own a P → ∀ o, H a = some o → H' a = some o) (h : SlotR K O H s v) : SlotR K O H' s v := by
  cases s with
  | un => trivial
  | dat d => obtain ⟨x, e, r⟩ := h; exact ⟨x, e, r.keep k⟩
  | own a P => obtain ⟨e, o, d, p, q⟩ := h; exact ⟨e, o, d, p, q.keepO k (ha a P rfl)⟩
theorem SlotR.more {s : Sl} {v : Option V} (hp : H p = none) (h : SlotR K O H s v) : SlotR K (addO O p) H s v := by
  cases s with
  | un => trivial
  | dat d => obtain ⟨x, e, r⟩ := h; exact ⟨x, e, r.more hp⟩
  | own a P => obtain ⟨e, o, d, p, q⟩ := h; exact ⟨e, .inl o, d, p, q.more hp⟩
theorem apart_set {s : Sl} {i : Nat} (h : Apart ρ) (hs : ∀ a P, s = .own a P → ∀ (j : Nat) (b : Addr) (Q : D → Prop), i ≠ j → ρ[j]? = some (.own b Q) → a ≠ b) : Apart (ρ.set i s) := by
  intro j k a b P Q hjk e1 e2
  by_cases h1 : i = j
  · subst h1
    rw [List.getElem?_set] at e1
    split at e1
    · split at e1
      · rw [List.getElem?_set_ne hjk] at e2
        exact hs a P (Option.some.inj e1) k b Q hjk e2
      · cases e1
    · rename_i z; exact absurd rfl z
  · rw [List.getElem?_set_ne h1] at e1
    by_cases h2 : i = k
    · subst h2
      rw [List.getElem?_set] at e2
      split at e2
      · split at e2
        · exact (hs b Q (Option.some.inj e2) j a P (fun z => hjk z.symm) e1).symm
        · cases e2
      · rename_i z; exact absurd rfl z
    · rw [List.getElem?_set_ne h2] at e2
      exact h j k a b P Q hjk e1 e2
theorem set_own {s : Sl} {i j : Nat} {b : Addr} {Q : D → Prop} (e : (ρ.set i s)[j]? = some (.own b Q)) : ρ[j]? = some (.own b Q) ∨ s = .own b Q := by
  rw [List.getElem?_set] at e
  split at e
  · split at e
    · exact .inr (Option.some.inj e)
    · cases e
  · exact .inl e
theorem KR.keep (k : KR ρ H H') (ok : Ok Γ O ρ σ H) : Keep O H H' := fun a o n e => k a o (fun ⟨i, P, z⟩ => by
  obtain ⟨v, _, r⟩ := ok.env.get z
  exact n r.2.1) e
namespace Ok
variable (h : Ok Γ O ρ σ H)
include h
theorem ext (e : Ext H H') : Ok Γ O ρ σ H' :=
  ⟨(fun a o z => by
      cases q : H a with
      | none => exact h.dom a o q
      | some u => rw [e a u q] at z; cases z),
    h.sup, fun a o n q => e a o (h.fr a o n q), h.env.imp fun i s v _ r => r.keepO e.keep fun a P _ o q => e a o q, h.ap, h.ow, h.dom0, fun a w z => by
      cases q : H a with
      | none => exact h.wdom a w q
      | some u => rw [e a u q] at z; cases z⟩
theorem new {o : HO} (hp : H p = none) : Ok Γ (addO O p) ρ σ (upd H p o) := by
  have e : Ext H (upd H p o) := Ext.new hp
  refine ⟨fun a o z => ?_, fun a z => .inl (h.sup a z), fun a o n q => e a o (h.fr a o n q), h.env.imp fun i s v _ r => (r.more hp).keepO e.keep fun a P _ o q => e a o q, h.ap, h.ow, h.dom0, fun a w z => by
      cases q : H a with
      | none => exact h.wdom a w q
      | some u => rw [e a u q] at z; cases z⟩
  rcases o with o | rfl
  · cases q : H a with
    | none => exact h.dom a o q
    | some u => rw [e a u q] at z; cases z
  · rw [upd_same] at z; cases z
theorem old {o : HO} (e : Γ.H0 p = some o) (n : ¬ Γ.W0 p) (hp : H p = none) : False := by
  rw [h.fr p o n e] at hp; cases hp
theorem un (i : Nat) : Ok Γ O (ρ.set i .un) (σ.set i none) H :=
  ⟨h.dom, h.sup, h.fr, h.env.set i trivial, apart_set h.ap (fun a P z => by cases z), (fun j a P e => by
    rcases set_own e with z | z
    · exact h.ow j a P z
    · cases z), h.dom0, h.wdom⟩
theorem setD {v : V} (i : Nat) (r : Rep Γ.K O H d v) : Ok Γ O (ρ.set i (.dat d)) (σ.set i (some v)) H :=
  ⟨h.dom, h.sup, h.fr, h.env.set i ⟨v, rfl, r⟩, apart_set h.ap (fun a P z => by cases z), (fun j a P e => by
    rcases set_own e with z | z
    · exact h.ow j a P z
    · cases z), h.dom0, h.wdom⟩
/-- less is owned -/
theorem drop (lt : ∀ a, O' a → O a) (ho : ∀ (i : Nat) (a : Addr) (P : D → Prop), ρ[i]? = some (.own a P) → O' a) (hs : ∀ a, Γ.O0 a → O' a) : Ok Γ O' ρ σ H :=
  ⟨fun a z => h.dom a (lt a z), hs, h.fr, h.env.imp fun i s v e r => by
    cases s with
    | un => trivial
    | dat d => obtain ⟨x, e, r⟩ := r; exact ⟨x, e, r.less lt⟩
    | own b P =>
      obtain ⟨e2, ob, dd, p, q⟩ := r
      exact ⟨e2, ho i b P e, dd, p, q.less lt⟩, h.ap, h.ow, h.dom0, h.wdom⟩
theorem fresh {a : Addr} (hn : H a = none) : ¬ O a ∧ ¬ Γ.W0 a ∧ Γ.H0 a = none := by
  have h1 : ¬ O a := fun z => h.dom a z hn
  have h2 : ¬ Γ.W0 a := fun z => h.wdom a z hn
  refine ⟨h1, h2, ?_⟩
  cases q : Γ.H0 a with
  | none => rfl
  | some o => rw [h.fr a o h2 q] at hn; cases hn
/-- a new owned object, however it came -/
theorem newE (hp : H p = none) (e : Ext H H') (hp' : H' p ≠ none) : Ok Γ (addO O p) ρ σ H' := by
  refine ⟨fun a o z => ?_, fun a z => .inl (h.sup a z), fun a o n q => e a o (h.fr a o n q), h.env.imp fun i s v _ r => (r.more hp).keepO e.keep fun a P _ o q => e a o q, h.ap, h.ow, h.dom0, fun a w z => by
      cases q : H a with
      | none => exact h.wdom a w q
      | some u => rw [e a u q] at z; cases z⟩
  rcases o with o | rfl
  · cases q : H a with
    | none => exact h.dom a o q
    | some u => rw [e a u q] at z; cases z
  · exact hp' z
/-- an owned object into a slot; it was new -/
theorem setO {P : D → Prop} {a : Addr} {d : D} (i : Nat) (hO : O a) (hn : Γ.H0 a = none) (hap : ∀ (j : Nat) (b : Addr) (Q : D → Prop), i ≠ j → ρ[j]? = some (.own b Q) → a ≠ b) (q : OwnAt Γ.K O H a d) (hd : P d) :
    Ok Γ O (ρ.set i (.own a P)) (σ.set i (some (.ref a))) H :=
  ⟨h.dom, h.sup, h.fr, h.env.set i ⟨rfl, hO, d, hd, q⟩, apart_set h.ap (fun b Q z => by cases z; exact hap), (fun j b Q e => by
    rcases set_own e with z | z
    · exact h.ow j b Q z
    · cases z; exact .inr hn), h.dom0, h.wdom⟩
/-- the object in slot i is changed -/
theorem chg {P Q : D → Prop} {a : Addr} {d : D} {i : Nat} (hρ : ρ[i]? = some (.own a P)) (k : ∀ x o, x ≠ a → H x = some o → H' x = some o) (q : OwnAt Γ.K O H' a d) (hd : Q d) :
    Ok Γ O (ρ.set i (.own a Q)) σ H' := by
  obtain ⟨v, hv, ev, hO, d0, _, q0⟩ := h.env.get hρ
  have kp : Keep O H H' := fun x o n e => k x o (fun z => n (z ▸ hO)) e
  have hσ : σ = σ.set i (some (.ref a)) := by
    refine (List.set_getElem_self_of hv ev)
  refine ⟨fun x o z => ?_, h.sup, fun x o n e => k x o (fun z => ?_) (h.fr x o n e), ?_, apart_set h.ap (fun b R z j c S hij e => by cases z; exact h.ap i j a c P S hij hρ e), (fun j b R e => by
    rcases set_own e with z | z
    · exact h.ow j b R z
    · cases z; exact h.ow i a P hρ), h.dom0, fun x w z => ?_⟩
  · by_cases e : x = a
    · subst e; exact q.dom z
    · cases r : H x with
      | none => exact h.dom x o r
      | some u => rw [k x u e r] at z; cases z
  · subst z
    rcases h.ow i x P hρ with w | w
    · exact n w
    · rw [w] at e; cases e
  · have e0 : EnvR Γ.K O H' (ρ.set i .un) (σ.set i none) := by
      refine ((h.env.set i (s := .un) (v := none) trivial)).imp fun j s v e r => ?_
      refine r.keepO kp fun b R z o eo => k b o ?_ eo
      subst z
      rcases set_own e with z | z
      · intro w
        by_cases ij : i = j
        · subst ij
          rw [List.getElem?_set] at e
          split at e
          · split at e
            · cases e
            · cases e
          · rename_i z; exact absurd rfl z
        · exact h.ap i j a b P R ij hρ z w.symm
      · cases z
    have e1 := e0.set i (s := .own a Q) (v := some (.ref a)) ⟨rfl, hO, d, hd, q⟩
    rw [List.set_set, List.set_set] at e1
    rw [hσ]
    exact e1
  · by_cases e : x = a
    · subst e; exact q.dom z
    · cases r : H x with
      | none => exact h.wdom x w r
      | some u => rw [k x u e r] at z; cases z
/-- an owned object is data from here on -/
theorem freeze {P : D → Prop} {a : Addr} {i : Nat} (hρ : ρ[i]? = some (.own a P)) (hw : ¬ Γ.W0 a) : ∃ d, P d ∧ Ok Γ (fun x => O x ∧ x ≠ a) (ρ.set i (.dat d)) σ H := by
  obtain ⟨v, hv, ev, hO, d, hP, q⟩ := h.env.get hρ
  have hn : Γ.H0 a = none := (h.ow i a P hρ).resolve_left hw
  have lt : ∀ x, (O x ∧ x ≠ a) → O x := fun x z => z.1
  have hσ : σ = σ.set i (some (.ref a)) := List.set_getElem_self_of hv ev
  refine ⟨d, hP, fun x z => h.dom x z.1, fun x z => ⟨h.sup x z, fun e => h.dom0 x z (e ▸ hn)⟩, h.fr, ?_, apart_set h.ap (fun b Q z => by cases z), (fun j b Q e => by
    rcases set_own e with z | z
    · exact h.ow j b Q z
    · cases z), h.dom0, h.wdom⟩
  have e0 : EnvR Γ.K (fun x => O x ∧ x ≠ a) H (ρ.set i .un) (σ.set i none) := by
    refine ((h.env.set i (s := .un) (v := none) trivial)).imp fun j s v e r => ?_
    cases s with
    | un => trivial
    | dat d => obtain ⟨x, e, r⟩ := r; exact ⟨x, e, r.less lt⟩
    | own b R =>
      obtain ⟨e2, ob, dd, pp, qq⟩ := r
      refine ⟨e2, ⟨ob, ?_⟩, dd, pp, qq.less lt⟩
      rcases set_own e with z | z
      · by_cases ij : i = j
        · subst ij
          rw [List.getElem?_set] at e
          split at e
          · split at e
            · cases e
            · cases e
          · rename_i z; exact absurd rfl z
        · exact (h.ap i j a b P R ij hρ z).symm
      · cases z
  have e1 := e0.set i (s := .dat d) (v := some (.ref a)) ⟨_, rfl, (q.less lt).rep fun z => z.2 rfl⟩
  rw [List.set_set, List.set_set] at e1
  rw [hσ]
  exact e1
end Ok
end
end VL

set_option maxRecDepth 100000
set_option maxHeartbeats 4000000
namespace VL
open PySem PySem.Spec PyProof.Rows L2

/-! ### judgements weakened, and by cases of what is known -/
section
variable {X : Cx} {e : Expr} {es : List Expr} {st : Stmt} {sts : List Stmt}
theorem pe_mono {t t' : TE} (h : PE X e t) (m : ∀ σ H Q, t' σ H Q → t σ H Q) : PE X e t' := ⟨fun pins s σ H Q I q => h.run pins s σ H Q I (m σ H Q q)⟩
theorem pt_mono {t t' : TT} (h : PT X e t) (m : ∀ σ H Q, t' σ H Q → t σ H Q) : PT X e t' := ⟨fun pins s σ H Q I q => h.run pins s σ H Q I (m σ H Q q)⟩
theorem pw_mono {t t' : TT} (h : PW X e t) (m : ∀ σ H Q, t' σ H Q → t σ H Q) : PW X e t' := ⟨fun w pins s σ H Q I q => h.run w pins s σ H Q I (m σ H Q q)⟩
theorem pts_mono {t t' : TT} (h : PTs X es t) (m : ∀ σ H Q, t' σ H Q → t σ H Q) : PTs X es t' := ⟨fun pins s σ H Q I q => h.run pins s σ H Q I (m σ H Q q)⟩
theorem pa_mono {t t' : TA} (h : PA X es t) (m : ∀ σ H Q, t' σ H Q → t σ H Q) : PA X es t' := ⟨fun pos pins s σ H Q I q => h.run pos pins s σ H Q I (m σ H Q q)⟩
theorem ps_mono {t t' : TS} (h : PS X st t) (m : ∀ D σ H, t' D σ H → t D σ H) : PS X st t' := ⟨fun pins s σ H D I q => h.run pins s σ H D I (m D σ H q)⟩
theorem pss_mono {t t' : TS} (h : PSs X sts t) (m : ∀ D σ H, t' D σ H → t D σ H) : PSs X sts t' := ⟨fun pins s σ H D I q => h.run pins s σ H D I (m D σ H q)⟩
theorem pi_mono {tg : Expr} {t t' : TI} (h : PI X tg e t) (m : ∀ σ H R, t' σ H R → t σ H R) : PI X tg e t' := ⟨fun pins s σ H R I q => h.run pins s σ H R I (m σ H R q)⟩
theorem pg_mono {t t' : TG} (h : PG X e t) (m : ∀ v σ H Q, t' v σ H Q → t v σ H Q) : PG X e t' := ⟨fun pins s σ H v u Q I r q => h.run pins s σ H v u Q I r (m v σ H Q q)⟩
theorem po_mono {o : Option Expr} {t t' : TO} (h : PO X o t) (m : ∀ σ H Q, t' σ H Q → t σ H Q) : PO X o t' := ⟨fun pins s σ H Q I q => h.run pins s σ H Q I (m σ H Q q)⟩
theorem pe_ex {ι : Type} {P : ι → Prop} {t : ι → TE} (h : ∀ i, P i → PE X e (t i)) : PE X e (fun σ H Q => ∃ i, P i ∧ t i σ H Q) := ⟨fun pins s σ H Q I ⟨i, p, q⟩ => (h i p).run pins s σ H Q I q⟩
theorem pt_ex {ι : Type} {P : ι → Prop} {t : ι → TT} (h : ∀ i, P i → PT X e (t i)) : PT X e (fun σ H Q => ∃ i, P i ∧ t i σ H Q) := ⟨fun pins s σ H Q I ⟨i, p, q⟩ => (h i p).run pins s σ H Q I q⟩
theorem pw_ex {ι : Type} {P : ι → Prop} {t : ι → TT} (h : ∀ i, P i → PW X e (t i)) : PW X e (fun σ H Q => ∃ i, P i ∧ t i σ H Q) := ⟨fun w pins s σ H Q I ⟨i, p, q⟩ => (h i p).run w pins s σ H Q I q⟩
theorem pts_ex {ι : Type} {P : ι → Prop} {t : ι → TT} (h : ∀ i, P i → PTs X es (t i)) : PTs X es (fun σ H Q => ∃ i, P i ∧ t i σ H Q) := ⟨fun pins s σ H Q I ⟨i, p, q⟩ => (h i p).run pins s σ H Q I q⟩
theorem pa_ex {ι : Type} {P : ι → Prop} {t : ι → TA} (h : ∀ i, P i → PA X es (t i)) : PA X es (fun σ H Q => ∃ i, P i ∧ t i σ H Q) := ⟨fun pos pins s σ H Q I ⟨i, p, q⟩ => (h i p).run pos pins s σ H Q I q⟩
theorem ps_ex {ι : Type} {P : ι → Prop} {t : ι → TS} (h : ∀ i, P i → PS X st (t i)) : PS X st (fun D σ H => ∃ i, P i ∧ t i D σ H) := ⟨fun pins s σ H D I ⟨i, p, q⟩ => (h i p).run pins s σ H D I q⟩
theorem pss_ex {ι : Type} {P : ι → Prop} {t : ι → TS} (h : ∀ i, P i → PSs X sts (t i)) : PSs X sts (fun D σ H => ∃ i, P i ∧ t i D σ H) := ⟨fun pins s σ H D I ⟨i, p, q⟩ => (h i p).run pins s σ H D I q⟩
theorem pi_ex {tg : Expr} {ι : Type} {P : ι → Prop} {t : ι → TI} (h : ∀ i, P i → PI X tg e (t i)) : PI X tg e (fun σ H R => ∃ i, P i ∧ t i σ H R) := ⟨fun pins s σ H R I ⟨i, p, q⟩ => (h i p).run pins s σ H R I q⟩
theorem pg_ex {ι : Type} {P : ι → Prop} {t : ι → TG} (h : ∀ i, P i → PG X e (t i)) : PG X e (fun v σ H Q => ∃ i, P i ∧ t i v σ H Q) := ⟨fun pins s σ H v u Q I r ⟨i, p, q⟩ => (h i p).run pins s σ H v u Q I r q⟩
theorem pgs_ex {ι : Type} {P : ι → Prop} {t : ι → TGs} (h : ∀ i, P i → PGs X es (t i)) : PGs X es (fun v σ H Q => ∃ i, P i ∧ t i v σ H Q) := ⟨fun pins s σ H v u Q I r ⟨i, p, q⟩ => (h i p).run pins s σ H v u Q I r q⟩
theorem pgs_mono {t t' : TGs} (h : PGs X es t) (m : ∀ v σ H Q, t' v σ H Q → t v σ H Q) : PGs X es t' := ⟨fun pins s σ H v u Q I r q => h.run pins s σ H v u Q I r (m v σ H Q q)⟩
theorem po_ex {o : Option Expr} {ι : Type} {P : ι → Prop} {t : ι → TO} (h : ∀ i, P i → PO X o (t i)) : PO X o (fun σ H Q => ∃ i, P i ∧ t i σ H Q) := ⟨fun pins s σ H Q I ⟨i, p, q⟩ => (h i p).run pins s σ H Q I q⟩
end

/-! ### the judgements -/
/-- an expression's value is data of which R holds -/
def tE (Γ : Gm) (ρ : List Sl) (R : D → Prop) : TE := fun σ H Q => ∃ O, Ok Γ O ρ σ H ∧ ∀ v H' d, Ok Γ O ρ σ H' → KR ρ H H' → Rep Γ.K O H' d v → R d → Q v H'
/-- .. a new object -/
def tN (Γ : Gm) (ρ : List Sl) (R : D → Prop) : TE := fun σ H Q => ∃ O, Ok Γ O ρ σ H ∧ ∀ a H' d, H a = none → Ok Γ (addO O a) ρ σ H' → KR ρ H H' → OwnAt Γ.K (addO O a) H' a d → R d → Q (.ref a) H'
def tT (Γ : Gm) (ρ : List Sl) (R : Bool → Prop) : TT := fun σ H Q => ∃ O, Ok Γ O ρ σ H ∧ ∀ b H', Ok Γ O ρ σ H' → KR ρ H H' → R b → Q b H'
def tA (Γ : Gm) (ρ : List Sl) (R : List D → Prop) : TA := fun σ H Q => ∃ O, Ok Γ O ρ σ H ∧ ∀ vs H' ds, Ok Γ O ρ σ H' → KR ρ H H' → Reps Γ.K O H' ds vs → R ds → Q vs H'
def tO (Γ : Gm) (ρ : List Sl) (R : Option Int → Prop) : TO := fun σ H Q => ∃ O, Ok Γ O ρ σ H ∧ ∀ o H', Ok Γ O ρ σ H' → KR ρ H H' → R o → Q o H'
/-- slots other than W's stand -/
def Off (W : Nat → Prop) (σ σ' : L2.St) : Prop := σ'.length = σ.length ∧ ∀ j, ¬ W j → σ'[j]? = σ[j]?
theorem Off.refl {W : Nat → Prop} (σ : L2.St) : Off W σ σ := ⟨rfl, fun _ _ => rfl⟩
theorem Off.trans {W : Nat → Prop} {σ σ1 σ2 : L2.St} (a : Off W σ σ1) (b : Off W σ1 σ2) : Off W σ σ2 := ⟨b.1.trans a.1, fun j n => (b.2 j n).trans (a.2 j n)⟩
structure OffS (W : Nat → Prop) (σ σ' : L2.St) (ρ ρ' : List Sl) : Prop where
  st : Off W σ σ'
  sl : ∀ j, ¬ W j → ρ'[j]? = ρ[j]?
theorem OffS.refl {W : Nat → Prop} (σ : L2.St) (ρ : List Sl) : OffS W σ σ ρ ρ := ⟨Off.refl σ, fun _ _ => rfl⟩
theorem OffS.trans {W : Nat → Prop} {σ σ1 σ2 : L2.St} {ρ ρ1 ρ2 : List Sl} (a : OffS W σ σ1 ρ ρ1) (b : OffS W σ1 σ2 ρ1 ρ2) : OffS W σ σ2 ρ ρ2 := ⟨a.st.trans b.st, fun j n => (b.sl j n).trans (a.sl j n)⟩
def tGd (Γ : Gm) (ρ : List Sl) (d : D) (W : Nat → Prop) (R : List Sl → Prop) : TG := fun v σ H Q => ∃ O, Ok Γ O ρ σ H ∧ Rep Γ.K O H d v ∧ ∀ ρ' σ' H', Ok Γ O ρ' σ' H' → (∀ a, Owns ρ' a → Owns ρ a) → KR ρ H H' → OffS W σ σ' ρ ρ' → R ρ' → Q σ' H'
def tGs (Γ : Gm) (ρ : List Sl) (ds : List D) (W : Nat → Prop) (R : List Sl → Prop) : TGs := fun vs σ H Q => ∃ O, Ok Γ O ρ σ H ∧ Reps Γ.K O H ds vs ∧ ∀ ρ' σ' H', Ok Γ O ρ' σ' H' → (∀ a, Owns ρ' a → Owns ρ a) → KR ρ H H' → OffS W σ σ' ρ ρ' → R ρ' → Q σ' H'
/-- what is owned behind was owned or is new -/
structure Stp (O : Own) (H : Hp) (O' : Own) (H' : Hp) : Prop where
  keep : Keep O H H'
  own : ∀ a, O' a → O a ∨ H a = none
theorem Stp.refl (O : Own) (H : Hp) : Stp O H O H := ⟨Keep.refl H, fun a h => .inl h⟩
theorem Stp.of {O : Own} {H H' : Hp} (k : Keep O H H') : Stp O H O H' := ⟨k, fun a h => .inl h⟩
theorem Stp.keep1 {O O1 : Own} {H H1 H2 : Hp} (a : Stp O H O1 H1) (b : Keep O1 H1 H2) : Keep O H H2 := fun x o n h => by
  refine b x o (fun z => ?_) (a.keep x o n h)
  rcases a.own x z with q | q
  · exact n q
  · rw [h] at q; cases q
theorem Stp.trans {O O1 O2 : Own} {H H1 H2 : Hp} (a : Stp O H O1 H1) (b : Stp O1 H1 O2 H2) : Stp O H O2 H2 :=
  ⟨a.keep1 b.keep, fun x h => by
    rcases b.own x h with q | q
    · exact a.own x q
    · cases e : H x with
      | none => exact .inr rfl
      | some o =>
        refine Classical.byContradiction fun z => ?_
        have := a.keep x o (fun w => z (.inl w)) e
        rw [q] at this; cases this⟩
/-- what is wanted behind a statement, of the environments -/
structure De where
  nx : List Sl → Prop
  rt : List Sl → D → Prop
  ro : List Sl → Addr → (D → Prop) → Prop := fun _ _ _ => False
  bk : List Sl → Prop := fun _ => False
  ct : List Sl → Prop := fun _ => False
def tD (Γ : Gm) (ρ : List Sl) (E : De) : TS := fun D σ H => ∃ O, Ok Γ O ρ σ H ∧
  (∀ ρ' σ' H' O', E.nx ρ' → Ok Γ O' ρ' σ' H' → Stp O H O' H' → D.nx σ' H') ∧
  (∀ ρ' σ' H' O', E.bk ρ' → Ok Γ O' ρ' σ' H' → Stp O H O' H' → D.bk σ' H') ∧
  (∀ ρ' σ' H' O', E.ct ρ' → Ok Γ O' ρ' σ' H' → Stp O H O' H' → D.ct σ' H') ∧
  (∀ ρ' σ' H' O' v d, E.rt ρ' d → Ok Γ O' ρ' σ' H' → Stp O H O' H' → Rep Γ.K O' H' d v → D.rt v H') ∧
  (∀ ρ' σ' H' O' a P, E.ro ρ' a P → Ok Γ O' ρ' σ' H' → Stp O H O' H' → O' a → (Γ.W0 a ∨ Γ.H0 a = none) → (∃ d, P d ∧ OwnAt Γ.K O' H' a d) → D.rt (.ref a) H')

def WE (X : Cx) (Γ : Gm) (ρ : List Sl) (e : Expr) (R : D → Prop) : Prop := PE X e (tE Γ ρ R)
def WN (X : Cx) (Γ : Gm) (ρ : List Sl) (e : Expr) (R : D → Prop) : Prop := PE X e (tN Γ ρ R)
def WT (X : Cx) (Γ : Gm) (ρ : List Sl) (e : Expr) (R : Bool → Prop) : Prop := PT X e (tT Γ ρ R)
def WW (X : Cx) (Γ : Gm) (ρ : List Sl) (e : Expr) (R : Bool → Prop) : Prop := PW X e (tT Γ ρ R)
def WTs (X : Cx) (Γ : Gm) (ρ : List Sl) (es : List Expr) (R : Bool → Prop) : Prop := PTs X es (tT Γ ρ R)
def WA (X : Cx) (Γ : Gm) (ρ : List Sl) (es : List Expr) (R : List D → Prop) : Prop := PA X es (tA Γ ρ R)
def WO (X : Cx) (Γ : Gm) (ρ : List Sl) (o : Option Expr) (R : Option Int → Prop) : Prop := PO X o (tO Γ ρ R)
def WG (X : Cx) (Γ : Gm) (ρ : List Sl) (tg : Expr) (d : D) (W : Nat → Prop) (R : List Sl → Prop) : Prop := PG X tg (tGd Γ ρ d W R)
def WGs (X : Cx) (Γ : Gm) (ρ : List Sl) (tgs : List Expr) (ds : List D) (W : Nat → Prop) (R : List Sl → Prop) : Prop := PGs X tgs (tGs Γ ρ ds W R)
def WS (X : Cx) (Γ : Gm) (ρ : List Sl) (st : Stmt) (E : De) : Prop := PS X st (tD Γ ρ E)
def WB (X : Cx) (Γ : Gm) (ρ : List Sl) (sts : List Stmt) (E : De) : Prop := PSs X sts (tD Γ ρ E)

section
variable {X : Cx} {Γ : Gm} {ρ : List Sl} {a b c e : Expr} {es rest : List Expr} {pos : Pos} {R : D → Prop}

theorem we_imp {R' : D → Prop} (h : WE X Γ ρ e R') (m : ∀ d, R' d → R d) : WE X Γ ρ e R := pe_mono h fun σ H Q ⟨O, ok, k⟩ => ⟨O, ok, fun v H' d o1 k1 r1 h1 => k v H' d o1 k1 r1 (m d h1)⟩
/-- a new object is data -/
theorem we_new (h : WN X Γ ρ e R) : WE X Γ ρ e R := pe_mono h fun σ H Q ⟨O, ok, k⟩ => ⟨O, ok, fun a H' d hn o1 k1 r1 h1 => by
  have na : ¬ O a := fun z => ok.dom a z hn
  have lt : ∀ x, O x → addO O a x := fun x z => .inl z
  have r2 : Rep Γ.K O H' d (.ref a) := (r1.less lt).rep na
  refine k (.ref a) H' d ⟨fun x z => o1.dom x (.inl z), ok.sup, o1.fr, ?_, o1.ap, o1.ow, ok.dom0, o1.wdom⟩ k1 r2 h1
  refine o1.env.imp fun i s v e r => ?_
  cases s with
  | un => trivial
  | dat d => obtain ⟨x, e, r⟩ := r; exact ⟨x, e, r.less lt⟩
  | own b P =>
    obtain ⟨e2, ob, dd, p, q⟩ := r
    refine ⟨e2, ?_, dd, p, q.less lt⟩
    obtain ⟨w, ew, rw'⟩ := ok.env.get e
    exact rw'.2.1⟩

/-! names and constants -/
theorem we_var (i : Nat) {d : D} {x : Str} (hρ : ρ[i]? = some (.dat d)) (h : R d) (hN : X.N[i]? = some x := by rfl) (hv : Vis X.env.scope x := by first | exact Or.inl rfl | exact Or.inr (Or.inl rfl) | exact Or.inr (Or.inr rfl))
    (hd : (x == ("__debug__" : Str)) = false := by decide) (hcd : (x == ("__classdict__" : Str)) = false := by decide) : WE X Γ ρ (.Name x pos) R :=
  pe_mono (pe_var hN hv hd hcd) fun σ H Q ⟨O, ok, k⟩ => by
    obtain ⟨v, e1, x', e2, r⟩ := ok.env.get hρ
    subst e2
    exact ⟨x', e1, k x' H d ok (KR.refl H) r h⟩
theorem tE_c {v : V} (h : R (.v v)) : ∀ σ H Q, tE Γ ρ R σ H Q → tC v σ H Q := fun σ H Q ⟨O, ok, k⟩ => k v H (.v v) ok (KR.refl H) (rep_v.mpr rfl) h
theorem we_int {i : Int} {j : Nat} (h : R (.v (.int i))) : WE X Γ ρ (.Constant (.int i) j pos) R := pe_mono pe_int (tE_c h)
theorem we_bl {i : Bool} {j : Nat} (h : R (.v (.bl i))) : WE X Γ ρ (.Constant (.bool i) j pos) R := pe_mono pe_bl (tE_c h)
theorem we_non {j : Nat} (h : R (.v .non)) : WE X Γ ρ (.Constant .none j pos) R := pe_mono pe_non (tE_c h)
theorem we_str {x : Str} {j : Nat} (h : R (.v (.str x))) : WE X Γ ρ (.Constant (.str x) j pos) R := pe_mono pe_str (tE_c h)
theorem we_glob {x : Str} {v : V} (hm : ∃ u, X.mg x = some u ∧ RelV v u) (h : R (.v v)) (hg : Gl X x := by rfl) (hd : (x == ("__debug__" : Str)) = false := by decide) : WE X Γ ρ (.Name x pos) R := by
  obtain ⟨u, hm, r⟩ := hm
  exact pe_mono (pe_glob hg hm r hd) (tE_c h)

/-! operators -/
def OpD (K : PySem.W.Frag) (r : R2) (d1 d2 : D) (R : D → Prop) : Prop := ∀ (O : Own) (H : Hp) (x y : V) (Q : VK), (∀ a, O a → H a ≠ none) → Rep K O H d1 x → Rep K O H d2 y →
  (∀ v H' d, Ext H H' → Rep K O H' d v → R d → Q v H') → r x y H Q
theorem bin_tE {r : R2} {σ : L2.St} {H : Hp} {Q : VK} {R1 : D → Prop} {t2 : D → TE} {R2' : D → D → Prop}
    (h : tE Γ ρ R σ H Q) (h2 : ∀ d1, R1 d1 → ∀ O σ H Q, Ok Γ O ρ σ H → (∀ v H' d, Ok Γ O ρ σ H' → KR ρ H H' → Rep Γ.K O H' d v → R2' d1 d → Q v H') → t2 d1 σ H Q)
    (h3 : ∀ d1 d2, R1 d1 → R2' d1 d2 → OpD Γ.K r d1 d2 R) : tOp r (tE Γ ρ R1) (fun σ H Q => ∃ d1, R1 d1 ∧ t2 d1 σ H Q) σ H Q := by
  obtain ⟨O, ok, k⟩ := h
  refine ⟨O, ok, fun v H1 d1 ok1 k1 r1 q1 => ⟨d1, q1, ?_⟩⟩
  refine h2 d1 q1 O σ H1 _ ok1 fun u H2 d2 ok2 k2 r2 q2 => ?_
  exact h3 d1 d2 q1 q2 O H2 v u Q ok2.dom (r1.keep (k2.keep ok1)) r2 fun w H3 d3 e3 r3 q3 => k w H3 d3 (ok2.ext e3) ((k1.trans k2).trans e3.kr) r3 q3
theorem we_op {op : Operator} {r : R2} (ho : OpR X (binaryOp op) r) (h : WE X Γ ρ a fun d1 => WE X Γ ρ b fun d2 => OpD Γ.K r d1 d2 R) : WE X Γ ρ (.BinOp a op b pos) R :=
  pe_mono (pe_op ho h (pe_ex fun d1 (h1 : WE X Γ ρ b fun d2 => OpD Γ.K r d1 d2 R) => h1)) fun σ H Q q =>
    bin_tE (R2' := fun d1 d2 => OpD Γ.K r d1 d2 R) q (fun d1 _ O σ H Q ok k => ⟨O, ok, k⟩) fun _ _ _ z => z
theorem we_cmp {op : CmpOp} {r : R2} (ho : OpR X (compareOp op) r) (h : WE X Γ ρ a fun d1 => WE X Γ ρ b fun d2 => OpD Γ.K r d1 d2 R) (hm : behindInMarks op b = false := by first | rfl | exact nomark _) : WE X Γ ρ (.Compare a [op] [b] pos) R :=
  pe_mono (pe_cmpR ho h (pe_ex fun d1 (h1 : WE X Γ ρ b fun d2 => OpD Γ.K r d1 d2 R) => h1) hm) fun σ H Q q =>
    bin_tE (R2' := fun d1 d2 => OpD Γ.K r d1 d2 R) q (fun d1 _ O σ H Q ok k => ⟨O, ok, k⟩) fun _ _ _ z => z
/-- a test by a comparison -/
def RB (R : Bool → Prop) : D → Prop := fun d => ∃ b, d = .v (.bl b) ∧ R b
theorem wt_cmp {R : Bool → Prop} {op : CmpOp} {r : R2} (ho : OpR X (compareOp op) r) (h : WE X Γ ρ a fun d1 => WE X Γ ρ b fun d2 => OpD Γ.K r d1 d2 (RB R)) (hm : behindInMarks op b = false := by first | rfl | exact nomark _) : WT X Γ ρ (.Compare a [op] [b] pos) R :=
  pt_mono (pt_cmpR ho h (pe_ex fun d1 (h1 : WE X Γ ρ b fun d2 => OpD Γ.K r d1 d2 (RB R)) => h1) hm) fun σ H Q ⟨O, ok, k⟩ => by
    refine bin_tE (R := RB R) (R2' := fun d1 d2 => OpD Γ.K r d1 d2 (RB R)) (Q := fun x H' => ∃ k, x = .bl k ∧ Q k H') ⟨O, ok, fun v H' d ok' k' r' q' => ?_⟩ (fun d1 _ O σ H Q ok k => ⟨O, ok, k⟩) fun _ _ _ z => z
    obtain ⟨b, rfl, q⟩ := q'
    exact ⟨b, rep_v.mp r', k b H' ok' k' q⟩
/-- a bool as a test -/
theorem wt_val {R : Bool → Prop} (h : WE X Γ ρ e (RB R)) (he : ∀ whole, isTrue e X.env whole = (do let v ← whole; standAt e.pos; holding [v] (truthy v)) := by intro _; rfl) : WT X Γ ρ e R :=
  pt_mono (pt_val h he) fun σ H Q ⟨O, ok, k⟩ => ⟨O, ok, fun v H' d ok' k' r' ⟨b, e, q⟩ => by
    subst e
    exact ⟨b, rep_v.mp r', k b H' ok' k' q⟩⟩
theorem wt_not {R : Bool → Prop} (h : WT X Γ ρ a fun b => R (!b)) : WT X Γ ρ (.UnaryOp .Not a pos) R :=
  pt_mono (pt_not h) fun σ H Q ⟨O, ok, k⟩ => ⟨O, ok, fun b H' ok' k' q => k (!b) H' ok' k' q⟩
theorem wt_w {R : Bool → Prop} (h : WW X Γ ρ e R) : WT X Γ ρ e R := PW.pt h
theorem ww_and1 {R : Bool → Prop} (h : WT X Γ ρ a R) : WW X Γ ρ (.BoolOp .And [a] pos) R := pw_and1 h
theorem ww_or1 {R : Bool → Prop} (h : WT X Γ ρ a R) : WW X Γ ρ (.BoolOp .Or [a] pos) R := pw_or1 h
theorem ww_and {R : Bool → Prop} (h : WT X Γ ρ a fun k => (k = true → WW X Γ ρ (.BoolOp .And (b :: rest) pos) R) ∧ (k = false → R false)) : WW X Γ ρ (.BoolOp .And (a :: b :: rest) pos) R :=
  pw_mono (pw_and h (pw_ex fun (_ : Unit) (h1 : WW X Γ ρ (.BoolOp .And (b :: rest) pos) R) => h1)) fun σ H Q ⟨O, ok, k⟩ => ⟨O, ok, fun c H' ok' k' q => by
    cases c with
    | true => exact iteT ⟨(), q.1 rfl, O, ok', fun b H2 ok2 k2 q2 => k b H2 ok2 (k'.trans k2) q2⟩
    | false => exact iteF (k false H' ok' k' (q.2 rfl))⟩
theorem ww_or {R : Bool → Prop} (h : WT X Γ ρ a fun k => (k = true → R true) ∧ (k = false → WW X Γ ρ (.BoolOp .Or (b :: rest) pos) R)) : WW X Γ ρ (.BoolOp .Or (a :: b :: rest) pos) R :=
  pw_mono (pw_or h (pw_ex fun (_ : Unit) (h1 : WW X Γ ρ (.BoolOp .Or (b :: rest) pos) R) => h1)) fun σ H Q ⟨O, ok, k⟩ => ⟨O, ok, fun c H' ok' k' q => by
    cases c with
    | true => exact iteT (k true H' ok' k' (q.1 rfl))
    | false => exact iteF ⟨(), q.2 rfl, O, ok', fun b H2 ok2 k2 q2 => k b H2 ok2 (k'.trans k2) q2⟩⟩
/-! .. as values -/
theorem we_one {op : BoolOp} (h : WE X Γ ρ a R) : WE X Γ ρ (.BoolOp op [a] pos) R := pe_one h
theorem we_and (h : WE X Γ ρ a (RB fun k => (k = true → WE X Γ ρ (.BoolOp .And (b :: rest) pos) R) ∧ (k = false → R (.v (.bl false))))) : WE X Γ ρ (.BoolOp .And (a :: b :: rest) pos) R :=
  pe_mono (pe_and h (pe_ex fun (_ : Unit) (h1 : WE X Γ ρ (.BoolOp .And (b :: rest) pos) R) => h1)) fun σ H Q ⟨O, ok, k⟩ => ⟨O, ok, fun v H' d ok' k' r' ⟨c, e, q⟩ => by
    subst e
    refine ⟨c, rep_v.mp r', ?_⟩
    cases c with
    | true => exact iteT ⟨(), q.1 rfl, O, ok', fun b H2 d ok2 k2 r2 q2 => k b H2 d ok2 (k'.trans k2) r2 q2⟩
    | false => exact iteF (k _ H' (.v (.bl false)) ok' k' (rep_v.mpr rfl) (q.2 rfl))⟩
theorem we_or (h : WE X Γ ρ a (RB fun k => (k = true → R (.v (.bl true))) ∧ (k = false → WE X Γ ρ (.BoolOp .Or (b :: rest) pos) R))) : WE X Γ ρ (.BoolOp .Or (a :: b :: rest) pos) R :=
  pe_mono (pe_or h (pe_ex fun (_ : Unit) (h1 : WE X Γ ρ (.BoolOp .Or (b :: rest) pos) R) => h1)) fun σ H Q ⟨O, ok, k⟩ => ⟨O, ok, fun v H' d ok' k' r' ⟨c, e, q⟩ => by
    subst e
    refine ⟨c, rep_v.mp r', ?_⟩
    cases c with
    | true => exact iteT (k _ H' (.v (.bl true)) ok' k' (rep_v.mpr rfl) (q.1 rfl))
    | false => exact iteF ⟨(), q.2 rfl, O, ok', fun b H2 d ok2 k2 r2 q2 => k b H2 d ok2 (k'.trans k2) r2 q2⟩⟩
theorem we_not (h : WE X Γ ρ a (RB fun k => R (.v (.bl (!k))))) : WE X Γ ρ (.UnaryOp .Not a pos) R :=
  pe_mono (pe_not h) fun σ H Q ⟨O, ok, k⟩ => ⟨O, ok, fun v H' d ok' k' r' ⟨c, e, q⟩ => by
    subst e
    exact ⟨c, rep_v.mp r', k _ H' (.v (.bl (!c))) ok' k' (rep_v.mpr rfl) q⟩⟩
theorem we_ifExp (h : WT X Γ ρ c fun k => (k = true → WE X Γ ρ a R) ∧ (k = false → WE X Γ ρ b R)) : WE X Γ ρ (.IfExp c a b pos) R :=
  pe_mono (pe_ifExp h (pe_ex fun (_ : Unit) (h1 : WE X Γ ρ a R) => h1) (pe_ex fun (_ : Unit) (h1 : WE X Γ ρ b R) => h1)) fun σ H Q ⟨O, ok, k⟩ => ⟨O, ok, fun c H' ok' k' q => by
    cases c with
    | true => exact iteT ⟨(), q.1 rfl, O, ok', fun b H2 d ok2 k2 r2 q2 => k b H2 d ok2 (k'.trans k2) r2 q2⟩
    | false => exact iteF ⟨(), q.2 rfl, O, ok', fun b H2 d ok2 k2 r2 q2 => k b H2 d ok2 (k'.trans k2) r2 q2⟩⟩
theorem we_un {op : UnaryOp} {r : V → Hp → VK → Prop} (ho : UnR X (unaryOp op) r) (h : WE X Γ ρ a fun d => ∀ (O : Own) (H : Hp) (x : V) (Q : VK), Rep Γ.K O H d x → (∀ v d', d' = .v v → R d' → Q v H) → r x H Q) : WE X Γ ρ (.UnaryOp op a pos) R :=
  pe_mono (pe_un ho h) fun σ H Q ⟨O, ok, k⟩ => ⟨O, ok, fun v H' d ok' k' r' q => q O H' v Q r' fun w d' e qq => k w H' d' ok' k' (by rw [e]; exact rep_v.mpr rfl) qq⟩
theorem we_neg (h : WE X Γ ρ a fun d => ∃ i : Int, d = .v (.int i) ∧ R (.v (.int (-i)))) : WE X Γ ρ (.UnaryOp .USub a pos) R :=
  we_un un_neg (we_imp h fun d ⟨i, e, q⟩ O H x Q r k => by
    subst e
    exact ⟨i, rep_v.mp r, k _ _ rfl q⟩)

/-! the operators' answers -/
variable {K : PySem.W.Frag} {i j : Int}
theorem od_I0 {g : Int → Int → V} (h : R (.v (g i j))) : OpD K (rI0 g) (.v (.int i)) (.v (.int j)) R := fun O H x y Q _ rx ry k => ⟨i, j, rep_v.mp rx, rep_v.mp ry, k _ H _ (Ext.refl H) (rep_v.mpr rfl) h⟩
theorem od_I {C : Int → Int → Prop} {g : Int → Int → V} (hc : C i j) (h : R (.v (g i j))) : OpD K (rI C g) (.v (.int i)) (.v (.int j)) R := fun O H x y Q _ rx ry k => ⟨i, j, rep_v.mp rx, rep_v.mp ry, hc, k _ H _ (Ext.refl H) (rep_v.mpr rfl) h⟩
theorem od_addS {x y : Str} (hl : x.length + y.length ≤ sizeLine) (h : R (.v (.str (x ++ y)))) : OpD K (fun x y H Q => ∃ i j, x = .str i ∧ y = .str j ∧ i.length + j.length ≤ sizeLine ∧ Q (.str (i ++ j)) H) (.v (.str x)) (.v (.str y)) R :=
  fun O H u w Q _ rx ry k => ⟨x, y, rep_v.mp rx, rep_v.mp ry, hl, k _ H _ (Ext.refl H) (rep_v.mpr rfl) h⟩
theorem od_eq {x y : V} (hs : scal x y = true) (h : R (.v (.bl (decide (x = y))))) : OpD K rEq (.v x) (.v y) R := fun O H u w Q _ rx ry k => by
  rw [rep_v.mp rx, rep_v.mp ry]
  exact ⟨hs, k _ H _ (Ext.refl H) (rep_v.mpr rfl) h⟩
theorem od_ne {x y : V} (hs : scal x y = true) (h : R (.v (.bl (!decide (x = y))))) : OpD K rNe (.v x) (.v y) R := fun O H u w Q _ rx ry k => by
  rw [rep_v.mp rx, rep_v.mp ry]
  exact ⟨hs, k _ H _ (Ext.refl H) (rep_v.mpr rfl) h⟩
end
end VL

set_option maxRecDepth 100000
set_option maxHeartbeats 4000000
namespace VL
open PySem PySem.Spec PyProof.Rows L2

section
variable {X : Cx} {Γ : Gm} {ρ : List Sl} {a b c e : Expr} {es rest : List Expr} {pos p : Pos} {R : D → Prop} {Rs : List D → Prop} {x : Str} {K : PySem.W.Frag}

/-! ### arguments, displays -/
theorem wa_nil (h : Rs []) : WA X Γ ρ [] Rs := pa_mono pa_nil fun σ H Q ⟨O, ok, k⟩ => k [] H [] ok (KR.refl H) Reps.nil h
theorem wa_cons (h : WE X Γ ρ e fun d => WA X Γ ρ es fun ds => Rs (d :: ds)) (hs : starEach (e :: es) X.env = (false, eval e X.env) :: starEach es X.env := by rfl) : WA X Γ ρ (e :: es) Rs :=
  pa_mono (pa_cons h (pa_ex fun d (h1 : WA X Γ ρ es fun ds => Rs (d :: ds)) => h1) hs) fun σ H Q ⟨O, ok, k⟩ => ⟨O, ok, fun v H1 d ok1 k1 r1 q1 => ⟨d, q1, O, ok1, fun vs H2 ds ok2 k2 r2 q2 =>
    k (v :: vs) H2 (d :: ds) ok2 (k1.trans k2) (Reps.cons (r1.keep (k2.keep ok1)) r2) q2⟩⟩
theorem new_back {O : Own} {H H1 : Hp} {q : Addr} {σ : L2.St} (ok1 : Ok Γ O ρ σ H1) (k1 : KR ρ H H1) (hq : H1 q = none) : H q = none := by
  cases z : H q with
  | none => rfl
  | some o =>
    refine absurd hq ?_
    by_cases w : Owns ρ q
    · obtain ⟨i, P, e⟩ := w
      obtain ⟨v, _, r⟩ := ok1.env.get e
      exact ok1.dom q r.2.1
    · rw [k1 q o w z]; exact fun z => nomatch z
theorem wn_lst (h : WA X Γ ρ es fun ds => ds.length ≤ sizeLine ∧ R (.lst ds)) : WN X Γ ρ (.List es pos) R :=
  pe_mono (pe_lst h) fun σ H Q ⟨O, ok, k⟩ => ⟨O, ok, fun vs H1 ds ok1 k1 r1 ⟨hl, q1⟩ => ⟨by rw [← r1.length]; exact hl, fun q hq => by
    have e : Ext H1 (upd H1 q (.lst vs)) := Ext.new hq
    have hn : H q = none := new_back ok1 k1 hq
    exact k q _ (.lst ds) hn (ok1.new hq) (k1.trans e.kr) ⟨vs, upd_same, (r1.more hq).keep e.keep⟩ q1⟩⟩
theorem we_lst (h : WA X Γ ρ es fun ds => ds.length ≤ sizeLine ∧ R (.lst ds)) : WE X Γ ρ (.List es pos) R := we_new (wn_lst h)
theorem we_tup {k : Nat} (h : WA X Γ ρ es fun ds => ds.length ≤ sizeLine ∧ R (.tup ds)) : WE X Γ ρ (.Tuple es k pos) R :=
  pe_mono (pe_tup h) fun σ H Q ⟨O, ok, k⟩ => ⟨O, ok, fun vs H1 ds ok1 k1 r1 ⟨hl, q1⟩ => ⟨by rw [← r1.length]; exact hl, fun q hq => by
    have e : Ext H1 (upd H1 q (.tup vs)) := Ext.new hq
    have nq : ¬ O q := fun z => ok1.dom q z hq
    exact k (.ref q) _ (.tup ds) (ok1.ext e) (k1.trans e.kr) (rep_tup.mpr ⟨q, vs, rfl, .inl ⟨nq, .inl upd_same⟩, r1.keep e.keep⟩) q1⟩⟩

/-! ### calls of built-ins -/
def ClD (K : PySem.W.Frag) (r : List V → Hp → VK → Prop) (ds : List D) (R : D → Prop) : Prop := ∀ (O : Own) (H : Hp) (xs : List V) (Q : VK), (∀ a, O a → H a ≠ none) → Reps K O H ds xs →
  (∀ v H' d, Ext H H' → Rep K O H' d v → R d → Q v H') → r xs H Q
def ClN (K : PySem.W.Frag) (r : List V → Hp → VK → Prop) (ds : List D) (R : D → Prop) : Prop := ∀ (O : Own) (H : Hp) (xs : List V) (Q : VK), (∀ a, O a → H a ≠ none) → Reps K O H ds xs →
  (∀ a H' d, H a = none → Ext H H' → OwnAt K (addO O a) H' a d → R d → Q (.ref a) H') → r xs H Q
theorem cld_tA {r : List V → Hp → VK → Prop} {σ : L2.St} {H : Hp} {Q : VK} (h : tE Γ ρ R σ H Q) : tCB r (tA Γ ρ fun ds => ClD Γ.K r ds R) σ H Q := by
  obtain ⟨O, ok, k⟩ := h
  exact ⟨O, ok, fun vs H1 ds ok1 k1 r1 q1 => q1 O H1 vs Q ok1.dom r1 fun v H2 d e2 r2 q2 => k v H2 d (ok1.ext e2) (k1.trans e2.kr) r2 q2⟩
theorem cln_tA {r : List V → Hp → VK → Prop} {σ : L2.St} {H : Hp} {Q : VK} (h : tN Γ ρ R σ H Q) : tCB r (tA Γ ρ fun ds => ClN Γ.K r ds R) σ H Q := by
  obtain ⟨O, ok, k⟩ := h
  exact ⟨O, ok, fun vs H1 ds ok1 k1 r1 q1 => q1 O H1 vs Q ok1.dom r1 fun q H2 d hq e2 r2 q2 => k q H2 d (new_back ok1 k1 hq) (ok1.newE hq e2 r2.dom) (k1.trans e2.kr) r2 q2⟩
theorem we_callB {id : String} {r : List V → Hp → VK → Prop} (hc : CallR X (.builtin id) r) (hm : X.mg x = none) (hv : bootBuiltins x = some (.builtin id)) (h : WA X Γ ρ (e :: es) fun ds => ClD Γ.K r ds R)
    (hg : Gl X x := by rfl) (hn : x ≠ "__name__" := by decide) (hdb : (x == ("__debug__" : Str)) = false := by decide) (hst : starEach (e :: es) X.env = (false, eval e X.env) :: starEach es X.env := by rfl) (hpl : (backTo pos (starEach es X.env)).any (·.1) = false := by rfl) :
    WE X Γ ρ (.Call (.Name x p) (e :: es) [] pos) R := pe_mono (pe_callB hc hg hm hv h hn hdb hst hpl) fun σ H Q q => cld_tA q
theorem we_callTy {T : String} {r : List V → Hp → VK → Prop} (hc : CallR X (.type T) r) (hm : X.mg x = none) (hv : bootBuiltins x = some (.type T)) (h : WA X Γ ρ (e :: es) fun ds => ClD Γ.K r ds R)
    (hg : Gl X x := by rfl) (hn : x ≠ "__name__" := by decide) (hdb : (x == ("__debug__" : Str)) = false := by decide) (hst : starEach (e :: es) X.env = (false, eval e X.env) :: starEach es X.env := by rfl) (hpl : (backTo pos (starEach es X.env)).any (·.1) = false := by rfl) :
    WE X Γ ρ (.Call (.Name x p) (e :: es) [] pos) R := pe_mono (pe_callTy hc hg hm hv h hn hdb hst hpl) fun σ H Q q => cld_tA q
theorem wn_callB {id : String} {r : List V → Hp → VK → Prop} (hc : CallR X (.builtin id) r) (hm : X.mg x = none) (hv : bootBuiltins x = some (.builtin id)) (h : WA X Γ ρ (e :: es) fun ds => ClN Γ.K r ds R)
    (hg : Gl X x := by rfl) (hn : x ≠ "__name__" := by decide) (hdb : (x == ("__debug__" : Str)) = false := by decide) (hst : starEach (e :: es) X.env = (false, eval e X.env) :: starEach es X.env := by rfl) (hpl : (backTo pos (starEach es X.env)).any (·.1) = false := by rfl) :
    WN X Γ ρ (.Call (.Name x p) (e :: es) [] pos) R := pe_mono (pe_callB hc hg hm hv h hn hdb hst hpl) fun σ H Q q => cln_tA q
theorem wn_callTy {T : String} {r : List V → Hp → VK → Prop} (hc : CallR X (.type T) r) (hm : X.mg x = none) (hv : bootBuiltins x = some (.type T)) (h : WA X Γ ρ (e :: es) fun ds => ClN Γ.K r ds R)
    (hg : Gl X x := by rfl) (hn : x ≠ "__name__" := by decide) (hdb : (x == ("__debug__" : Str)) = false := by decide) (hst : starEach (e :: es) X.env = (false, eval e X.env) :: starEach es X.env := by rfl) (hpl : (backTo pos (starEach es X.env)).any (·.1) = false := by rfl) :
    WN X Γ ρ (.Call (.Name x p) (e :: es) [] pos) R := pe_mono (pe_callTy hc hg hm hv h hn hdb hst hpl) fun σ H Q q => cln_tA q

/-! what they give -/
theorem reps1 {O : Own} {H : Hp} {d : D} {xs : List V} (h : Reps K O H [d] xs) : ∃ u, xs = [u] ∧ Rep K O H d u := by
  obtain ⟨u, us, e, h1, h2⟩ := reps_cons.mp h
  rw [reps_nil.mp h2] at e
  exact ⟨u, e, h1⟩
theorem reps2 {O : Own} {H : Hp} {d d' : D} {xs : List V} (h : Reps K O H [d, d'] xs) : ∃ u w, xs = [u, w] ∧ Rep K O H d u ∧ Rep K O H d' w := by
  obtain ⟨u, us, e, h1, h2⟩ := reps_cons.mp h
  obtain ⟨w, e2, h3⟩ := reps1 h2
  rw [e2] at e
  exact ⟨u, w, e, h1, h3⟩
/-- len -/
abbrev rLenA (K : PySem.W.Frag) : List V → Hp → VK → Prop := fun xs H Q => (∃ p ys, xs = [.ref p] ∧ (SqL K H p ys ∨ SqT K H p ys) ∧ Q (.int ys.length) H) ∨ ∃ z, xs = [.str z] ∧ z.length ≤ sizeLine ∧ Q (.int z.length) H
theorem call_lenA : CallR X (.builtin "len") (rLenA X.K) := call_len_seq.or call_len_str
theorem cd_lenL {l : List D} (h : R (.v (.int l.length))) : ClD K (rLenA K) [.lst l] R := fun O H xs Q _ r k => by
  obtain ⟨u, rfl, h1⟩ := reps1 r
  obtain ⟨a, vs, rfl, s, rs⟩ := rep_lst.mp h1
  exact .inl ⟨a, vs, rfl, .inl s.sq, k _ H (.v (.int l.length)) (Ext.refl H) (by rw [rs.length]; exact rep_v.mpr rfl) h⟩
theorem cd_lenT {l : List D} (h : R (.v (.int l.length))) : ClD K (rLenA K) [.tup l] R := fun O H xs Q _ r k => by
  obtain ⟨u, rfl, h1⟩ := reps1 r
  obtain ⟨a, vs, rfl, s, rs⟩ := rep_tup.mp h1
  exact .inl ⟨a, vs, rfl, .inr s.sq, k _ H (.v (.int l.length)) (Ext.refl H) (by rw [rs.length]; exact rep_v.mpr rfl) h⟩
theorem cd_lenS {z : Str} (hz : z.length ≤ sizeLine) (h : R (.v (.int z.length))) : ClD K (rLenA K) [.v (.str z)] R := fun O H xs Q _ r k => by
  obtain ⟨u, rfl, h1⟩ := reps1 r
  rw [rep_v.mp h1]
  exact .inr ⟨z, rfl, hz, k _ H (.v (.int z.length)) (Ext.refl H) (rep_v.mpr rfl) h⟩
/-- a plain function of plain values -/
theorem cd_plain {r : List V → Hp → VK → Prop} {vs : List V} {w : V} (hr : ∀ H Q, Q w H → r vs H Q) (h : R (.v w)) : ClD K r (vs.map .v) R := fun O H xs Q _ rs k => by
  rw [reps_plain.mp rs]
  exact hr H Q (k w H (.v w) (Ext.refl H) (rep_v.mpr rfl) h)
theorem cd_sum {ns : List Int} (h : R (.v (.int ns.sum))) : ClD K (rSum K) [.lst (ns.map fun n => .v (.int n))] R := fun O H xs Q _ r k => by
  obtain ⟨u, rfl, h1⟩ := reps1 r
  obtain ⟨a, vs, rfl, s, rs⟩ := rep_lst.mp h1
  have e : vs = ns.map V.int := by
    have : ns.map (fun n => D.v (.int n)) = (ns.map V.int).map D.v := by rw [List.map_map]; rfl
    rw [this] at rs
    exact reps_plain.mp rs
  subst e
  exact ⟨a, ns, rfl, s.sq, k _ H (.v (.int ns.sum)) (Ext.refl H) (rep_v.mpr rfl) h⟩
theorem map_plain {α : Type} {f : α → V} {l : List α} {O : Own} {H : Hp} {vs : List V} (r : Reps K O H (l.map fun n => .v (f n)) vs) : vs = l.map f := by
  have : l.map (fun n => D.v (f n)) = (l.map f).map D.v := by rw [List.map_map]; rfl
  rw [this] at r
  exact reps_plain.mp r
theorem cd_all {bs : List Bool} (h : R (.v (.bl (bs.all id)))) : ClD K (rAll K) [.lst (bs.map fun n => .v (.bl n))] R := fun O H xs Q _ r k => by
  obtain ⟨u, rfl, h1⟩ := reps1 r
  obtain ⟨a, vs, rfl, s, rs⟩ := rep_lst.mp h1
  obtain rfl := map_plain rs
  exact ⟨a, bs, rfl, s.sq, k _ H (.v (.bl (bs.all id))) (Ext.refl H) (rep_v.mpr rfl) h⟩
theorem cd_any {bs : List Bool} (h : R (.v (.bl (bs.any id)))) : ClD K (rAny K) [.lst (bs.map fun n => .v (.bl n))] R := fun O H xs Q _ r k => by
  obtain ⟨u, rfl, h1⟩ := reps1 r
  obtain ⟨a, vs, rfl, s, rs⟩ := rep_lst.mp h1
  obtain rfl := map_plain rs
  exact ⟨a, bs, rfl, s.sq, k _ H (.v (.bl (bs.any id))) (Ext.refl H) (rep_v.mpr rfl) h⟩
theorem cd_max {ns : List Int} (hn : 0 < ns.length) (h : ∀ m, m ∈ ns → (∀ y, y ∈ ns → y ≤ m) → R (.v (.int m))) : ClD K (rMax K) [.lst (ns.map fun n => .v (.int n))] R := fun O H xs Q _ r k => by
  obtain ⟨u, rfl, h1⟩ := reps1 r
  obtain ⟨a, vs, rfl, s, rs⟩ := rep_lst.mp h1
  obtain rfl := map_plain rs
  exact ⟨a, ns, rfl, s.sq, hn, fun m h1 h2 => k _ H (.v (.int m)) (Ext.refl H) (rep_v.mpr rfl) (h m h1 h2)⟩
theorem cd_min {ns : List Int} (hn : 0 < ns.length) (h : ∀ m, m ∈ ns → (∀ y, y ∈ ns → m ≤ y) → R (.v (.int m))) : ClD K (rMin K) [.lst (ns.map fun n => .v (.int n))] R := fun O H xs Q _ r k => by
  obtain ⟨u, rfl, h1⟩ := reps1 r
  obtain ⟨a, vs, rfl, s, rs⟩ := rep_lst.mp h1
  obtain rfl := map_plain rs
  exact ⟨a, ns, rfl, s.sq, hn, fun m h1 h2 => k _ H (.v (.int m)) (Ext.refl H) (rep_v.mpr rfl) (h m h1 h2)⟩
abbrev rListA (K : PySem.W.Frag) : List V → Hp → VK → Prop := fun xs H Q => ∃ p ys, xs = [.ref p] ∧ (SqL K H p ys ∨ SqT K H p ys) ∧ ∀ l, H l = none → Q (.ref l) (upd H l (.lst ys))
theorem own_lst {O : Own} {H : Hp} {p : Addr} {l : List D} {vs : List V} (hp : H p = none) (r : Reps K O H l vs) : OwnAt K (addO O p) (upd H p (.lst vs)) p (.lst l) :=
  ⟨vs, upd_same, (r.more hp).keep (Ext.new hp).keep⟩
theorem cn_listL {l : List D} (h : R (.lst l)) : ClN K (rListA K) [.lst l] R := fun O H xs Q _ r k => by
  obtain ⟨u, rfl, h1⟩ := reps1 r
  obtain ⟨a, vs, rfl, s, rs⟩ := rep_lst.mp h1
  exact ⟨a, vs, rfl, .inl s.sq, fun q hq => k q _ (.lst l) hq (Ext.new hq) (own_lst hq rs) h⟩
theorem cn_listT {l : List D} (h : R (.lst l)) : ClN K (rListA K) [.tup l] R := fun O H xs Q _ r k => by
  obtain ⟨u, rfl, h1⟩ := reps1 r
  obtain ⟨a, vs, rfl, s, rs⟩ := rep_tup.mp h1
  exact ⟨a, vs, rfl, .inr s.sq, fun q hq => k q _ (.lst l) hq (Ext.new hq) (own_lst hq rs) h⟩
abbrev rTupleA (K : PySem.W.Frag) : List V → Hp → VK → Prop := fun xs H Q => ∃ p ys, xs = [.ref p] ∧ ((SqL K H p ys ∧ ∀ l, H l = none → Q (.ref l) (upd H l (.tup ys))) ∨ (SqT K H p ys ∧ Q (.ref p) H))
theorem rep_tup_new {O : Own} {H : Hp} {p : Addr} {l : List D} {vs : List V} (hd : ∀ a, O a → H a ≠ none) (hp : H p = none) (r : Reps K O H l vs) : Rep K O (upd H p (.tup vs)) (.tup l) (.ref p) :=
  rep_tup.mpr ⟨p, vs, rfl, .inl ⟨fun z => hd p z hp, .inl upd_same⟩, r.keep (Ext.new hp).keep⟩
theorem cd_tupleL {l : List D} (h : R (.tup l)) : ClD K (rTupleA K) [.lst l] R := fun O H xs Q hd r k => by
  obtain ⟨u, rfl, h1⟩ := reps1 r
  obtain ⟨a, vs, rfl, s, rs⟩ := rep_lst.mp h1
  exact ⟨a, vs, rfl, .inl ⟨s.sq, fun q hq => k _ _ (.tup l) (Ext.new hq) (rep_tup_new hd hq rs) h⟩⟩
theorem cd_tupleT {l : List D} (h : R (.tup l)) : ClD K (rTupleA K) [.tup l] R := fun O H xs Q hd r k => by
  obtain ⟨u, rfl, h1⟩ := reps1 r
  obtain ⟨a, vs, rfl, s, rs⟩ := rep_tup.mp h1
  exact ⟨a, vs, rfl, .inr ⟨s.sq, k _ _ (.tup l) (Ext.refl H) h1 h⟩⟩

/-! ### subscripts -/
theorem we_ix {r : R2} (hr : IxR X r) (h : WE X Γ ρ a fun d1 => WE X Γ ρ b fun d2 => OpD Γ.K r d1 d2 R) (hs : PlainIx b := by intro _ _; rfl) : WE X Γ ρ (.Subscript a b pos) R :=
  pe_mono (pe_ix hr h (pe_ex fun d1 (h1 : WE X Γ ρ b fun d2 => OpD Γ.K r d1 d2 R) => h1) hs) fun σ H Q q =>
    bin_tE (R2' := fun d1 d2 => OpD Γ.K r d1 d2 R) q (fun d1 _ O σ H Q ok k => ⟨O, ok, k⟩) fun _ _ _ z => z
theorem ix_get {α β : Type} {xs : List α} {i : Int} {v : α} (h : atI xs i = some v) : ∃ j, ixN xs.length i = some j ∧ xs[j]? = some v := by
  unfold atI at h
  cases e : ixN xs.length i with
  | none => rw [e] at h; cases h
  | some j => rw [e] at h; exact ⟨j, rfl, h⟩
theorem Reps.atI {O : Own} {H : Hp} {l : List D} {vs : List V} {i : Int} {d : D} (r : Reps K O H l vs) (h : L2.atI l i = some d) : ∃ v, L2.atI vs i = some v ∧ Rep K O H d v := by
  obtain ⟨j, e1, e2⟩ := ix_get (β := Unit) h
  obtain ⟨v, e3, q⟩ := r.get e2
  refine ⟨v, ?_, q⟩
  unfold L2.atI
  rw [← r.length, e1]
  exact e3
theorem od_ixL {l : List D} {i : Int} {d : D} (hi : L2.atI l i = some d) (h : R d) : OpD K (rIx K) (.lst l) (.v (.int i)) R := fun O H x y Q hd rx ry k => by
  obtain ⟨a, vs, rfl, s, rs⟩ := rep_lst.mp rx
  obtain ⟨v, e, r⟩ := rs.atI hi
  exact .inl ⟨a, vs, i, v, rfl, rep_v.mp ry, s.sq, e, k v H d (Ext.refl H) r h⟩
theorem od_ixT {l : List D} {i : Int} {d : D} (hi : L2.atI l i = some d) (h : R d) : OpD K (rIx K) (.tup l) (.v (.int i)) R := fun O H x y Q hd rx ry k => by
  obtain ⟨a, vs, rfl, s, rs⟩ := rep_tup.mp rx
  obtain ⟨v, e, r⟩ := rs.atI hi
  exact .inr (.inl ⟨a, vs, i, v, rfl, rep_v.mp ry, s.sq, e, k v H d (Ext.refl H) r h⟩)
theorem od_ixS {z : Str} {i : Int} {c : Nat} (hz : z.length ≤ sizeLine) (hi : L2.atI z.cps.toList i = some c) (h : R (.v (.str ⟨#[c]⟩))) : OpD K (rIx K) (.v (.str z)) (.v (.int i)) R := fun O H x y Q hd rx ry k =>
  .inr (.inr ⟨z, i, c, rep_v.mp rx, rep_v.mp ry, hz, hi, k _ H _ (Ext.refl H) (rep_v.mpr rfl) h⟩)
/-- slices -/
theorem wo_none {Ro : Option Int → Prop} (h : Ro none) : WO X Γ ρ none Ro := po_mono po_none fun σ H Q ⟨O, ok, k⟩ => k none H ok (KR.refl H) h
theorem wo_some {Ro : Option Int → Prop} (h : WE X Γ ρ e fun d => ∃ i : Int, d = .v (.int i) ∧ Ro (some i)) : WO X Γ ρ (some e) Ro := po_mono (po_some h) fun σ H Q ⟨O, ok, k⟩ => ⟨O, ok, fun v H' d ok' k' r' ⟨i, e, q⟩ => by
  subst e
  exact ⟨i, rep_v.mp r', k (some i) H' ok' k' q⟩⟩
def SlD (K : PySem.W.Frag) (r : V → Option Int → Option Int → Hp → VK → Prop) (d : D) (lo hi : Option Int) (R : D → Prop) : Prop := ∀ (O : Own) (H : Hp) (x : V) (Q : VK), (∀ a, O a → H a ≠ none) → Rep K O H d x →
  (∀ v H' d, Ext H H' → Rep K O H' d v → R d → Q v H') → r x lo hi H Q
theorem we_slice {lo hi : Option Expr} {p2 : Pos} {r : V → Option Int → Option Int → Hp → VK → Prop} (hr : SlR X r) (h : WE X Γ ρ a fun d => WO X Γ ρ lo fun l => WO X Γ ρ hi fun u => SlD Γ.K r d l u R) : WE X Γ ρ (.Subscript a (.Slice lo hi none p2) pos) R :=
  pe_mono (pe_slice hr h (po_ex fun d (h1 : WO X Γ ρ lo fun l => WO X Γ ρ hi fun u => SlD Γ.K r d l u R) => h1)
    (po_ex (P := fun (q : D × Option Int) => WO X Γ ρ hi fun u => SlD Γ.K r q.1 q.2 u R) fun q h1 => h1)) fun σ H Q ⟨O, ok, k⟩ => ⟨O, ok, fun v H1 d ok1 k1 r1 q1 => ⟨d, q1, O, ok1, fun l H2 ok2 k2 q2 => ⟨(d, l), q2, O, ok2, fun u H3 ok3 k3 q3 =>
      q3 O H3 v Q ok3.dom ((r1.keep (k2.keep ok1)).keep (k3.keep ok2)) fun w H4 d' e4 r4 q4 => k w H4 d' (ok3.ext e4) (((k1.trans k2).trans k3).trans e4.kr) r4 q4⟩⟩⟩
abbrev rSlA (K : PySem.W.Frag) : V → Option Int → Option Int → Hp → VK → Prop := fun x lo hi H Q => rSlL K x lo hi H Q ∨ rSlS x lo hi H Q
theorem sl_A : SlR X (rSlA X.K) := sl_list.or sl_str
/-- a part of a list of anything -/
def cutL {α : Type} (xs : List α) (lo hi : Option Int) : List α := (xs.drop (HT.sIx xs.length 0 lo)).take (HT.sIx xs.length xs.length hi - HT.sIx xs.length 0 lo)
theorem Reps.cut {O : Own} {H : Hp} {l : List D} {vs : List V} (r : Reps K O H l vs) (lo hi : Option Int) : Reps K O H (cutL l lo hi) (cutV vs lo hi) := by
  unfold cutL cutV
  rw [r.length]
  exact (r.drop _).take _
theorem sd_L {l : List D} {lo hi : Option Int} (h : R (.lst (cutL l lo hi))) : SlD K (rSlA K) (.lst l) lo hi R := fun O H x Q hd rx k => by
  obtain ⟨a, vs, rfl, s, rs⟩ := rep_lst.mp rx
  refine .inl ⟨a, vs, rfl, s.sq, fun q hq => k _ _ (.lst (cutL l lo hi)) (Ext.new hq) ?_ h⟩
  exact rep_lst.mpr ⟨q, _, rfl, .inl ⟨fun z => hd q z hq, .inl upd_same⟩, (rs.cut lo hi).keep (Ext.new hq).keep⟩
theorem sd_S {z : Str} {lo hi : Option Int} (hz : z.length ≤ sizeLine) (h : R (.v (.str (cutS z lo hi)))) : SlD K (rSlA K) (.v (.str z)) lo hi R := fun O H x Q hd rx k =>
  .inr ⟨z, rep_v.mp rx, hz, k _ H _ (Ext.refl H) (rep_v.mpr rfl) h⟩
end

/-! ### what is walked -/
structure WalkD (K : PySem.W.Frag) (O : Own) (J : It) (H1 : Hp) (items : List D) : Prop where
  go : ∀ H2, Keep O H1 H2 → ∀ i, i < items.length → J.go i H2
  stop : ∀ H2, Keep O H1 H2 → J.stop items.length H2
  yld : ∀ H2, Keep O H1 H2 → ∀ i x H3, i < items.length → J.yld i H2 x H3 → Ext H2 H3 ∧ ∃ d, items[i]? = some d ∧ ∀ O', (∀ a, O' a → O a ∨ H1 a = none) → (∀ a, O' a → H2 a ≠ none) → Rep K O' H3 d x
def tI (Γ : Gm) (ρ : List Sl) (R : List D → Prop) : TI := fun σ H RR => ∃ O, Ok Γ O ρ σ H ∧ ∀ J H' items, Ok Γ O ρ σ H' → KR ρ H H' → WalkD Γ.K O J H' items → R items → RR J H'
def WI (X : Cx) (Γ : Gm) (ρ : List Sl) (tg iter : Expr) (R : List D → Prop) : Prop := PI X tg iter (tI Γ ρ R)
section
variable {X : Cx} {Γ : Gm} {ρ : List Sl} {tg a b c e : Expr} {es rest : List Expr} {pos p : Pos} {R : D → Prop} {Rs : List D → Prop} {x : Str} {K : PySem.W.Frag}
/-- what was read stays readable: nothing of it was owned, what is owned now was so or is new -/
theorem sq_mv {O O' : Own} {H1 H2 : Hp} {q : Addr} {u : HO} (k : Keep O H1 H2) (ho : ∀ a, O' a → O a ∨ H1 a = none) (n : ¬ O q) (h : Rd H1 q u) : ¬ O' q ∧ Rd H2 q u :=
  ⟨fun z => (ho q z).elim n (rd_dom h), rd_keep k n h⟩
mutual
theorem Rep.mv {O O' : Own} {H1 H2 : Hp} (k : Keep O H1 H2) (ho : ∀ a, O' a → O a ∨ H1 a = none) : ∀ (d : D) (u : V), Rep K O H1 d u → Rep K O' H2 d u
  | .v _, _, h => by unfold Rep at h ⊢; exact h
  | .tup l, _, h => by
    unfold Rep at h ⊢
    obtain ⟨a, vs, e, s, r⟩ := h
    refine ⟨a, vs, e, ?_, Reps.mv k ho l vs r⟩
    rcases s with ⟨n, s⟩ | s
    · exact .inl (sq_mv k ho n s)
    · exact .inr s
  | .lst l, _, h => by
    unfold Rep at h ⊢
    obtain ⟨a, vs, e, s, r⟩ := h
    refine ⟨a, vs, e, ?_, Reps.mv k ho l vs r⟩
    rcases s with ⟨n, s⟩ | s
    · exact .inl (sq_mv k ho n s)
    · exact .inr s
  | .dK _ l, _, h => by
    unfold Rep at h ⊢
    obtain ⟨a, vs, e, n, s, hl, r⟩ := h
    obtain ⟨n', s'⟩ := sq_mv k ho n s
    exact ⟨a, vs, e, n', s', hl, Reps.mv k ho l vs r⟩
  | .dT _ l, _, h => by
    unfold Rep at h ⊢
    obtain ⟨a, vs, e, n, s, hl, r⟩ := h
    obtain ⟨n', s'⟩ := sq_mv k ho n s
    exact ⟨a, vs, e, n', s', hl, Reps.mv k ho l vs r⟩
  | .rng _ _, _, h => by
    unfold Rep at h ⊢
    obtain ⟨a, e, n, s⟩ := h
    obtain ⟨n', s'⟩ := sq_mv k ho n s
    exact ⟨a, e, n', s'⟩
theorem Reps.mv {O O' : Own} {H1 H2 : Hp} (k : Keep O H1 H2) (ho : ∀ a, O' a → O a ∨ H1 a = none) : ∀ (l : List D) (us : List V), Reps K O H1 l us → Reps K O' H2 l us
  | [], _, h => by unfold Reps at h ⊢; exact h
  | d :: r, _, h => by
    unfold Reps at h ⊢
    obtain ⟨u, us, e, h1, h2⟩ := h
    exact ⟨u, us, e, Rep.mv k ho d u h1, Reps.mv k ho r us h2⟩
end
theorem walkD_list {O : Own} {H1 : Hp} {q : Addr} {xs : List V} {l : List D} (s : SqLO K O H1 q xs) (r : Reps K O H1 l xs) : WalkD K O (Itl K q) H1 l where
  go := fun H2 k i hi => walk_list.goes i H2 (by rw [← r.length]; exact hi) (s.keep k).sq
  stop := fun H2 k => by rw [r.length]; exact walk_list.stops H2 (s.keep k).sq
  yld := fun H2 k i x H3 hi y => by
    obtain ⟨e, hx⟩ := walk_list.yields i H2 x H3 (by rw [← r.length]; exact hi) (s.keep k).sq y
    subst e
    obtain ⟨d, hd, ru⟩ := r.at hx
    exact ⟨Ext.refl _, d, hd, fun O' ho _ => ru.mv k ho⟩
theorem walkD_tup {O : Own} {H1 : Hp} {q : Addr} {xs : List V} {l : List D} (s : SqTO K O H1 q xs) (r : Reps K O H1 l xs) : WalkD K O (Itt K q) H1 l where
  go := fun H2 k i hi => walk_tup.goes i H2 (by rw [← r.length]; exact hi) (s.keep k).sq
  stop := fun H2 k => by rw [r.length]; exact walk_tup.stops H2 (s.keep k).sq
  yld := fun H2 k i x H3 hi y => by
    obtain ⟨e, hx⟩ := walk_tup.yields i H2 x H3 (by rw [← r.length]; exact hi) (s.keep k).sq y
    subst e
    obtain ⟨d, hd, ru⟩ := r.at hx
    exact ⟨Ext.refl _, d, hd, fun O' ho _ => ru.mv k ho⟩
/-- the ints of a range -/
def rngD (lo : Int) (n : Nat) : List D := (List.range n).map fun (i : Nat) => .v (.int (lo + i))
theorem rngD_len (lo : Int) (n : Nat) : (rngD lo n).length = n := by simp [rngD]
theorem rngD_get {lo : Int} {n i : Nat} (h : i < n) : (rngD lo n)[i]? = some (.v (.int (lo + i))) := by simp [rngD, h]
theorem walkD_rng {O : Own} {H1 : Hp} {lo : Int} {n : Nat} : WalkD K O (Itr lo n) H1 (rngD lo n) where
  go := fun H2 k i hi => by rw [rngD_len] at hi; exact hi
  stop := fun H2 k => by rw [rngD_len]; exact Nat.le_refl _
  yld := fun H2 k i x H3 hi y => by
    rw [rngD_len] at hi
    obtain ⟨e, hx⟩ : H3 = H2 ∧ x = .int (lo + i) := y
    subst e
    exact ⟨Ext.refl _, _, rngD_get hi, fun O' _ _ => rep_v.mpr hx⟩
/-- the signs of a text -/
def sgnD (z : Str) : List D := z.cps.toList.map fun c => .v (.str ⟨#[c]⟩)
theorem walkD_str {O : Own} {H1 : Hp} {z : Str} : WalkD K O (Its z) H1 (sgnD z) where
  go := fun H2 k i hi => walk_str.goes i H2 (by simpa [sgnD] using hi) trivial
  stop := fun H2 k => by
    have : (sgnD z).length = z.cps.size := by simp [sgnD]
    rw [this]; exact walk_str.stops H2 trivial
  yld := fun H2 k i x H3 hi y => by
    obtain ⟨e, c, hc, hx⟩ := walk_str.yields i H2 x H3 (by simpa [sgnD] using hi) trivial y
    subst e
    refine ⟨Ext.refl _, .v (.str ⟨#[c]⟩), ?_, fun O' _ _ => rep_v.mpr hx⟩
    have : z.cps.toList[i]? = some c := by simpa using hc
    simp [sgnD, this]
theorem wi_list (h : WE X Γ ρ e fun d => ∃ l, d = .lst l ∧ Rs l) (hK : Γ.K = X.K := by rfl) : WI X Γ ρ tg e Rs :=
  pi_mono (pi_list h) fun σ H RR ⟨O, ok, k⟩ => ⟨O, ok, fun v H' d ok' k' r' ⟨l, e, q⟩ => by
    subst e
    obtain ⟨a, vs, rfl, s, rs⟩ := rep_lst.mp r'
    exact ⟨a, rfl, ⟨vs, hK ▸ s.sq⟩, k _ H' l ok' k' (hK ▸ walkD_list s rs) q⟩⟩
theorem wi_tup (h : WE X Γ ρ e fun d => ∃ l, d = .tup l ∧ Rs l) (hK : Γ.K = X.K := by rfl) : WI X Γ ρ tg e Rs :=
  pi_mono (pi_tup h) fun σ H RR ⟨O, ok, k⟩ => ⟨O, ok, fun v H' d ok' k' r' ⟨l, e, q⟩ => by
    subst e
    obtain ⟨a, vs, rfl, s, rs⟩ := rep_tup.mp r'
    exact ⟨a, rfl, ⟨vs, hK ▸ s.sq⟩, k _ H' l ok' k' (hK ▸ walkD_tup s rs) q⟩⟩
theorem wi_str (h : WE X Γ ρ e fun d => ∃ z, d = .v (.str z) ∧ Rs (sgnD z)) : WI X Γ ρ tg e Rs :=
  pi_mono (pi_str h) fun σ H RR ⟨O, ok, k⟩ => ⟨O, ok, fun v H' d ok' k' r' ⟨z, e, q⟩ => by
    subst e
    exact ⟨z, rep_v.mp r', k _ H' (sgnD z) ok' k' walkD_str q⟩⟩
theorem wi_range1 (hm : X.mg "range" = none) (h : WA X Γ ρ [a] fun ds => ∃ j : Int, ds = [.v (.int j)] ∧ -(2 ^ 62) ≤ j ∧ j < 2 ^ 62 ∧ Rs (rngD 0 j.toNat)) (hg : Gl X "range" := by rfl) (hs : starEach [a] X.env = [(false, eval a X.env)] := by rfl) :
    WI X Γ ρ tg (.Call (.Name "range" p) [a] [] pos) Rs :=
  pi_mono (pi_range1 hg hm h hs) fun σ H RR ⟨O, ok, k⟩ => ⟨O, ok, fun vs H' ds ok' k' r' ⟨j, e, h1, h2, q⟩ => by
    subst e
    obtain ⟨u, rfl, r⟩ := reps1 r'
    exact ⟨j, by rw [rep_v.mp r], h1, h2, k _ H' _ ok' k' walkD_rng q⟩⟩
theorem wi_range2 (hm : X.mg "range" = none) (h : WA X Γ ρ [a, b] fun ds => ∃ i j : Int, ds = [.v (.int i), .v (.int j)] ∧ (-(2 ^ 62) ≤ i ∧ i < 2 ^ 62 ∧ -(2 ^ 62) ≤ j ∧ j < 2 ^ 62) ∧ Rs (rngD i (j - i).toNat)) (hg : Gl X "range" := by rfl)
    (hs : starEach [a, b] X.env = [(false, eval a X.env), (false, eval b X.env)] := by rfl) (hs2 : starEach [b] X.env = [(false, eval b X.env)] := by rfl) :
    WI X Γ ρ tg (.Call (.Name "range" p) [a, b] [] pos) Rs :=
  pi_mono (pi_range2 hg hm h hs hs2) fun σ H RR ⟨O, ok, k⟩ => ⟨O, ok, fun vs H' ds ok' k' r' ⟨i, j, e, h1, q⟩ => by
    subst e
    obtain ⟨u, w, rfl, r, r2⟩ := reps2 r'
    exact ⟨i, j, by rw [rep_v.mp r, rep_v.mp r2], h1, k _ H' _ ok' k' walkD_rng q⟩⟩
end
end VL

set_option maxRecDepth 100000
set_option maxHeartbeats 4000000
namespace VL
open PySem PySem.Spec PyProof.Rows L2

section
variable {X : Cx} {Γ : Gm} {ρ : List Sl} {tg a b c e : Expr} {es rest : List Expr} {pos p : Pos} {R : D → Prop} {Rs : List D → Prop} {x : Str} {K : PySem.W.Frag} {E : De} {st : Stmt} {sts : List Stmt}

/-! ### targets -/
theorem owns_set {i : Nat} {d : D} {q : Addr} (h : Owns (ρ.set i (.dat d)) q) : Owns ρ q := by
  obtain ⟨j, P, e⟩ := h
  rcases set_own e with z | z
  · exact ⟨j, P, z⟩
  · cases z
theorem off_set {W : Nat → Prop} {i : Nat} {v : Option V} {sl : Sl} {σ : L2.St} (h : W i) : OffS W σ (σ.set i v) ρ (ρ.set i sl) :=
  ⟨⟨List.length_set, fun j n => List.getElem?_set_ne fun e => n (by rw [← e]; exact h)⟩, fun j n => List.getElem?_set_ne fun e => n (by rw [← e]; exact h)⟩
theorem wg_name (i : Nat) {d : D} {W : Nat → Prop} {Rr : List Sl → Prop} (h : Rr (ρ.set i (.dat d))) (hN : X.N.Nodup) (hW : W i := by trivial) (hi : X.N[i]? = some x := by rfl) (hx : Loc X.env.scope x := by first | exact Or.inl rfl | exact Or.inr rfl)
    (hf : X.fn x = true ∨ X.env.scope.names.lookup x = some .local := by first | exact .inl rfl | exact .inr rfl) : WG X Γ ρ (.Name x pos) d W Rr :=
  pg_mono (pg_name hN hi hx hf) fun v σ H Q ⟨O, ok, r, k⟩ => k _ _ H (ok.setD i r) (fun a z => owns_set z) (KR.refl H) (off_set hW) h
theorem wgs_nil {W : Nat → Prop} {Rr : List Sl → Prop} (h : Rr ρ) : WGs X Γ ρ [] [] W Rr := pgs_mono pgs_nil fun vs σ H Q ⟨O, ok, r, k⟩ => ⟨reps_nil.mp r, k _ _ H ok (fun _ z => z) (KR.refl H) (OffS.refl σ ρ) h⟩
theorem KR.sub {ρ' : List Sl} {H H' : Hp} (k : KR ρ' H H') (h : ∀ a, Owns ρ' a → Owns ρ a) : KR ρ H H' := fun a o n e => k a o (fun z => n (h a z)) e
theorem wgs_cons {d : D} {ds : List D} {W : Nat → Prop} {Rr : List Sl → Prop} (h : WG X Γ ρ e d W fun ρ' => WGs X Γ ρ' es ds W Rr) (hs : List.map (fun x => x.snd) (assignEach (e :: es) X.env) = assign e X.env :: List.map (fun x => x.snd) (assignEach es X.env) := by rfl) : WGs X Γ ρ (e :: es) (d :: ds) W Rr :=
  pgs_mono (pgs_cons h (pgs_ex fun ρ' (h1 : WGs X Γ ρ' es ds W Rr) => h1) hs) fun vs σ H Q ⟨O, ok, r, k⟩ => by
    obtain ⟨u, us, ev, r1, r2⟩ := reps_cons.mp r
    exact ⟨u, us, ev, O, ok, r1, fun ρ' σ' H' ok' s' k' f' q' => ⟨ρ', q', O, ok', r2.keep (k'.keep ok), fun ρ2 σ2 H2 ok2 s2 k2 f2 q2 => k ρ2 σ2 H2 ok2 (fun a z => s' a (s2 a z)) (k'.trans (k2.sub s')) (f'.trans f2) q2⟩⟩
theorem wg_tup {k : Nat} {l : List D} {W : Nat → Prop} {Rr : List Sl → Prop} (h : WGs X Γ ρ es l W Rr) (hl : l.length = es.length) (hK : Γ.K = X.K := by rfl)
    (hp : ∀ {t : TGs}, PGs X es t → PG X (.Tuple es k pos) (gTup X.K es.length t) := by intro t h; exact pg_tup (by rfl) h) : WG X Γ ρ (.Tuple es k pos) (.tup l) W Rr :=
  pg_mono (hp h) fun v σ H Q ⟨O, ok, r, kk⟩ => by
    obtain ⟨a, vs, rfl, s, rs⟩ := rep_tup.mp r
    exact ⟨a, vs, rfl, hK ▸ s.sq, by rw [← rs.length, hl], O, ok, rs, kk⟩

/-! ### statements -/
def De.to (E : De) (nx : List Sl → Prop) : De := { E with nx := nx }
theorem wb_nil (h : E.nx ρ) : WB X Γ ρ [] E := pss_mono pss_nil fun D σ H ⟨O, ok, k, _⟩ => k ρ σ H O h ok (Stp.refl O H)
theorem wb_cons (h : WS X Γ ρ st (E.to fun ρ' => WB X Γ ρ' sts E)) : WB X Γ ρ (st :: sts) E :=
  pss_mono (pss_cons h (pss_ex fun ρ' (h1 : WB X Γ ρ' sts E) => h1)) fun D σ H ⟨O, ok, k1, k2, k3, k4, k5⟩ =>
    ⟨O, ok, fun ρ' σ' H' O' q ok' s => ⟨ρ', q, O', ok', fun ρ2 σ2 H2 O2 q2 ok2 s2 => k1 ρ2 σ2 H2 O2 q2 ok2 (s.trans s2), fun ρ2 σ2 H2 O2 q2 ok2 s2 => k2 ρ2 σ2 H2 O2 q2 ok2 (s.trans s2), fun ρ2 σ2 H2 O2 q2 ok2 s2 => k3 ρ2 σ2 H2 O2 q2 ok2 (s.trans s2),
        fun ρ2 σ2 H2 O2 v d q2 ok2 s2 => k4 ρ2 σ2 H2 O2 v d q2 ok2 (s.trans s2), fun ρ2 σ2 H2 O2 a P q2 ok2 s2 => k5 ρ2 σ2 H2 O2 a P q2 ok2 (s.trans s2)⟩,
      k2, k3, k4, k5⟩
theorem wb_one (h : WS X Γ ρ st E) : WB X Γ ρ [st] E := pss_one h
theorem ws_pass (h : E.nx ρ) : WS X Γ ρ (.Pass pos) E := ps_mono ps_pass fun D σ H ⟨O, ok, k, _⟩ => k ρ σ H O h ok (Stp.refl O H)
theorem ws_break (h : E.bk ρ) : WS X Γ ρ (.Break pos) E := ps_mono ps_break fun D σ H ⟨O, ok, _, k, _⟩ => k ρ σ H O h ok (Stp.refl O H)
theorem ws_continue (h : E.ct ρ) : WS X Γ ρ (.Continue pos) E := ps_mono ps_continue fun D σ H ⟨O, ok, _, _, k, _⟩ => k ρ σ H O h ok (Stp.refl O H)
theorem ws_never (h : False) : WS X Γ ρ st E := h.elim
theorem wb_never (h : False) : WB X Γ ρ sts E := h.elim
theorem ws_expr (h : WE X Γ ρ e fun _ => E.nx ρ) (hs : swapsWith e none pos.line X.env = pure false := by rfl) : WS X Γ ρ (.Expr e pos) E :=
  ps_mono (ps_expr h hs) fun D σ H ⟨O, ok, k, _⟩ => ⟨O, ok, fun v H' d ok' k' _ q => k ρ σ H' O q ok' (Stp.of (k'.keep ok))⟩
theorem ws_ret (h : WE X Γ ρ e fun d => E.rt ρ d) : WS X Γ ρ (.Return (some e) pos) E :=
  ps_mono (ps_ret h) fun D σ H ⟨O, ok, _, _, _, k, _⟩ => ⟨O, ok, fun v H' d ok' k' r' q => k ρ σ H' O v d q ok' (Stp.of (k'.keep ok)) r'⟩
theorem ws_retN (h : E.rt ρ (.v .non)) : WS X Γ ρ (.Return none pos) E :=
  ps_mono ps_retN fun D σ H ⟨O, ok, _, _, _, k, _⟩ => k ρ σ H O .non (.v .non) h ok (Stp.refl O H) (rep_v.mpr rfl)
/-- a new object handed back -/
theorem ws_retW (h : WN X Γ ρ e fun d => ∀ a, E.ro ρ a fun d' => d' = d) : WS X Γ ρ (.Return (some e) pos) E :=
  ps_mono (ps_ret h) fun D σ H ⟨O, ok, _, _, _, _, k⟩ => ⟨O, ok, fun a H' d hn ok' k' r' q =>
    k ρ σ H' (addO O a) a _ (q a) ok' ⟨k'.keep ok, fun x z => z.elim .inl fun e => .inr (e ▸ hn)⟩ (.inr rfl) (.inr (ok.fresh hn).2.2) ⟨d, rfl, r'⟩⟩
/-- an own object handed back -/
theorem ws_retO (i : Nat) {q : Addr} {P : D → Prop} (hρ : ρ[i]? = some (.own q P)) (h : E.ro ρ q P) (hN : X.N[i]? = some x := by rfl) (hv : Vis X.env.scope x := by first | exact Or.inl rfl | exact Or.inr (Or.inl rfl) | exact Or.inr (Or.inr rfl))
    (hd : (x == ("__debug__" : Str)) = false := by decide) (hcd : (x == ("__classdict__" : Str)) = false := by decide) : WS X Γ ρ (.Return (some (.Name x p)) pos) E :=
  ps_mono (ps_ret (pe_var hN hv hd hcd)) fun D σ H ⟨O, ok, _, _, _, _, k⟩ => by
    obtain ⟨v, e1, e2, hO, d, hP, r⟩ := ok.env.get hρ
    subst e2
    exact ⟨_, e1, k ρ σ H O q P h ok (Stp.refl O H) hO (ok.ow i q P hρ) ⟨d, hP, r⟩⟩
theorem ws_if {s1 s2 : List Stmt} (h : WT X Γ ρ c fun k => (k = true → WB X Γ ρ s1 E) ∧ (k = false → WB X Γ ρ s2 E)) : WS X Γ ρ (.If c s1 s2 pos) E :=
  ps_mono (ps_if h (pss_ex fun (_ : Unit) (h1 : WB X Γ ρ s1 E) => h1) (pss_ex fun (_ : Unit) (h1 : WB X Γ ρ s2 E) => h1)) fun D σ H ⟨O, ok, k1, k2, k3, k4, k5⟩ => ⟨O, ok, fun b H' ok' k' q => by
    have s := Stp.of (O := O) (k'.keep ok)
    have w : tD Γ ρ E D σ H' := ⟨O, ok', fun ρ2 σ2 H2 O2 q2 ok2 s2 => k1 ρ2 σ2 H2 O2 q2 ok2 (s.trans s2), fun ρ2 σ2 H2 O2 q2 ok2 s2 => k2 ρ2 σ2 H2 O2 q2 ok2 (s.trans s2), fun ρ2 σ2 H2 O2 q2 ok2 s2 => k3 ρ2 σ2 H2 O2 q2 ok2 (s.trans s2),
        fun ρ2 σ2 H2 O2 v d q2 ok2 s2 => k4 ρ2 σ2 H2 O2 v d q2 ok2 (s.trans s2), fun ρ2 σ2 H2 O2 a P q2 ok2 s2 => k5 ρ2 σ2 H2 O2 a P q2 ok2 (s.trans s2)⟩
    cases b with
    | true => exact iteT ⟨(), q.1 rfl, w⟩
    | false => exact iteF ⟨(), q.2 rfl, w⟩⟩
/-- target = e -/
theorem ws_asg (h : WE X Γ ρ e fun d => WG X Γ ρ tg d (fun _ => True) E.nx) (hs : swapsWith e (some tg) pos.line X.env = pure false := by rfl)
    (hp : ∀ {te : TE} {g : TG}, PE X e te → PG X tg g → PS X (.Assign [tg] e pos) (tAsg te g) := by intro te g h1 h2; exact ps_asg h1 h2) : WS X Γ ρ (.Assign [tg] e pos) E :=
  ps_mono (hp h (pg_ex fun d (h1 : WG X Γ ρ tg d (fun _ => True) E.nx) => h1)) fun D σ H ⟨O, ok, k, _⟩ => ⟨O, ok, fun v H1 d ok1 k1 r1 q1 => ⟨d, q1, O, ok1, r1, fun ρ' σ' H' ok' _ k' _ q' => k ρ' σ' H' O q' ok' ((Stp.of (k1.keep ok)).trans (Stp.of (k'.keep ok1)))⟩⟩
/-- x = e, a new object that is kept as one's own -/
theorem ws_own (i : Nat) {px : Pos} (h : WN X Γ ρ e fun d => ∀ q, ¬ Γ.W0 q → E.nx (ρ.set i (.own q fun d' => d' = d))) (hN : X.N.Nodup) (hi : X.N[i]? = some x := by rfl) (hx : Loc X.env.scope x := by first | exact Or.inl rfl | exact Or.inr rfl)
    (hp : ∀ {te : TE}, PE X e te → PS X (.Assign [.Name x px] e pos) (tAsg te (gName i)) := by intro te h1; exact ps_set (by assumption) (by rfl) (by first | exact Or.inl rfl | exact Or.inr rfl) h1) : WS X Γ ρ (.Assign [.Name x px] e pos) E :=
  ps_mono (hp h) fun D σ H ⟨O, ok, k, _⟩ => ⟨O, ok, fun q H1 d hn ok1 k1 r1 q1 => by
    obtain ⟨f1, f2, f3⟩ := ok.fresh hn
    refine k _ _ H1 (addO O q) (q1 q f2) (ok1.setO i (.inr rfl) f3 (fun j b Q hij e => ?_) r1 rfl) ⟨k1.keep ok, fun x z => z.elim .inl fun e => .inr (e ▸ hn)⟩
    obtain ⟨v, e1, e2, hO, _⟩ := ok.env.get e
    rintro rfl
    exact f1 hO⟩
/-- an own object is data from here on -/
theorem wb_freeze (i : Nat) {q : Addr} {d : D} (hρ : ρ[i]? = some (.own q fun d' => d' = d)) (hw : ¬ Γ.W0 q) (h : WB X Γ (ρ.set i (.dat d)) sts E) : WB X Γ ρ sts E :=
  pss_mono h fun D σ H ⟨O, ok, k1, k2, k3, k4, k5⟩ => by
    obtain ⟨d', rfl, ok'⟩ := ok.freeze hρ hw
    have s : Stp O H (fun x => O x ∧ x ≠ q) H := ⟨Keep.refl H, fun x z => .inl z.1⟩
    exact ⟨_, ok', fun ρ2 σ2 H2 O2 q2 ok2 s2 => k1 ρ2 σ2 H2 O2 q2 ok2 (s.trans s2), fun ρ2 σ2 H2 O2 q2 ok2 s2 => k2 ρ2 σ2 H2 O2 q2 ok2 (s.trans s2), fun ρ2 σ2 H2 O2 q2 ok2 s2 => k3 ρ2 σ2 H2 O2 q2 ok2 (s.trans s2),
        fun ρ2 σ2 H2 O2 v d q2 ok2 s2 => k4 ρ2 σ2 H2 O2 v d q2 ok2 (s.trans s2), fun ρ2 σ2 H2 O2 a P q2 ok2 s2 => k5 ρ2 σ2 H2 O2 a P q2 ok2 (s.trans s2)⟩
/-- for target in iter -/
theorem ws_for {body : List Stmt} (hp : PassesOwn (model X.prog X.w) X.A X.env X.xe) (hc : X.calm = true)
    (h : WI X Γ ρ tg e fun items => ∃ Iv : Nat → List Sl → Prop, Iv 0 ρ ∧
      (∀ i d ρ', items[i]? = some d → Iv i ρ' → WG X Γ ρ' tg d (fun _ => True) fun ρ2 => WB X Γ ρ2 body { nx := Iv (i + 1), ct := Iv (i + 1), bk := E.nx, rt := E.rt, ro := E.ro }) ∧ ∀ ρ', Iv items.length ρ' → E.nx ρ')
    (hs : ∀ x, foldedSetIterable e X.env x = pure x := by intro _; rfl) : WS X Γ ρ (.For tg e body [] pos) E :=
  ps_mono (ps_for hp hc h (pg_ex (ι := D × List Sl × (List Sl → Prop)) (P := fun q => WG X Γ q.2.1 tg q.1 (fun _ => True) q.2.2) fun q h1 => h1) (pss_ex (ι := List Sl × De) (P := fun q => WB X Γ q.1 body q.2) fun q h1 => h1) hs)
    fun D σ H ⟨O, ok, k1, k2, k3, k4, k5⟩ => ⟨O, ok, fun J H1 items ok1 kp1 W ⟨Iv, i0, turn, fin⟩ => by
      have s1 := Stp.of (O := O) (kp1.keep ok)
      refine ⟨fun i m σ' H' => m = items.length - i ∧ i ≤ items.length ∧ ∃ O' ρ', Ok Γ O' ρ' σ' H' ∧ Stp O H1 O' H' ∧ Iv i ρ', ⟨items.length, by simp, Nat.zero_le _, O, ρ, ok1, Stp.refl O H1, i0⟩, ?_⟩
      rintro i m σ' H' ⟨rfl, hi, O', ρ', ok', s', iv⟩
      by_cases hlt : i < items.length
      · refine .inr ⟨W.go H' s'.keep i hlt, fun σ2 H2 => ∃ O2 ρ2, Ok Γ O2 ρ2 σ2 H2 ∧ Stp O H1 O2 H2 ∧ Iv (i + 1) ρ2, fun σ2 H2 ⟨O2, ρ2, o2, s2, v2⟩ => ⟨items.length - (i + 1), by omega, rfl, hlt, O2, ρ2, o2, s2, v2⟩, fun x H3 y => ?_⟩
        obtain ⟨e3, d, hd, r3⟩ := W.yld H' s'.keep i x H3 hlt y
        have ok3 := ok'.ext e3
        have s3 : Stp O H1 O' H3 := s'.trans (Stp.of e3.keep)
        refine ⟨(d, ρ', _), turn i d ρ' hd iv, O', ok3, r3 O' s'.own ok'.dom, fun ρ4 σ4 H4 ok4 _ k4' _ q4 => ?_⟩
        have s4 : Stp O H1 O' H4 := s3.trans (Stp.of (k4'.keep ok3))
        exact ⟨(ρ4, _), q4, O', ok4, fun ρ5 σ5 H5 O5 q5 ok5 s5 => ⟨O5, ρ5, ok5, s4.trans s5, q5⟩, fun ρ5 σ5 H5 O5 q5 ok5 s5 => k1 ρ5 σ5 H5 O5 q5 ok5 (s1.trans (s4.trans s5)), fun ρ5 σ5 H5 O5 q5 ok5 s5 => ⟨O5, ρ5, ok5, s4.trans s5, q5⟩,
          fun ρ5 σ5 H5 O5 v d q5 ok5 s5 => k4 ρ5 σ5 H5 O5 v d q5 ok5 (s1.trans (s4.trans s5)), fun ρ5 σ5 H5 O5 a P q5 ok5 s5 => k5 ρ5 σ5 H5 O5 a P q5 ok5 (s1.trans (s4.trans s5))⟩
      · have e : i = items.length := by omega
        subst e
        exact .inl ⟨W.stop H' s'.keep, k1 ρ' σ' H' O' (fin ρ' iv) ok' (s1.trans s')⟩⟩
/-- while -/
theorem ws_while {body : List Stmt} (hp : PassesOwn (model X.prog X.w) X.A X.env X.xe) (Iv : Nat → List Sl → Prop) {m0 : Nat} (i0 : Iv m0 ρ)
    (turn : ∀ m ρ', Iv m ρ' → WT X Γ ρ' c fun k => (k = true → WB X Γ ρ' body { nx := fun ρ2 => ∃ m', m' < m ∧ Iv m' ρ2, ct := fun ρ2 => ∃ m', m' < m ∧ Iv m' ρ2, bk := E.nx, rt := E.rt, ro := E.ro }) ∧ (k = false → E.nx ρ')) :
    WS X Γ ρ (.While c body [] pos) E :=
  ps_mono (ps_while hp (pt_ex (ι := List Sl × (Bool → Prop)) (P := fun q => WT X Γ q.1 c q.2) fun q h1 => h1) (pss_ex (ι := List Sl × De) (P := fun q => WB X Γ q.1 body q.2) fun q h1 => h1))
    fun D σ H ⟨O, ok, k1, k2, k3, k4, k5⟩ => by
      refine ⟨fun m σ' H' => ∃ O' ρ', Ok Γ O' ρ' σ' H' ∧ Stp O H O' H' ∧ Iv m ρ', ⟨m0, O, ρ, ok, Stp.refl O H, i0⟩, ?_⟩
      rintro m σ' H' ⟨O', ρ', ok', s', iv⟩
      refine ⟨(ρ', _), turn m ρ' iv, O', ok', fun b H1 ok1 kp1 q1 => ?_⟩
      have s1 : Stp O H O' H1 := s'.trans (Stp.of (kp1.keep ok'))
      cases b with
      | false => exact iteF (k1 ρ' σ' H1 O' (q1.2 rfl) ok1 s1)
      | true =>
        refine iteT ⟨fun σ2 H2 => ∃ m', m' < m ∧ ∃ O2 ρ2, Ok Γ O2 ρ2 σ2 H2 ∧ Stp O H O2 H2 ∧ Iv m' ρ2, fun σ2 H2 ⟨m', hm, z⟩ => ⟨m', hm, z⟩, (ρ', _), q1.1 rfl, O', ok1, ?_⟩
        exact ⟨fun ρ5 σ5 H5 O5 ⟨m', hm, q5⟩ ok5 s5 => ⟨m', hm, O5, ρ5, ok5, s1.trans s5, q5⟩, fun ρ5 σ5 H5 O5 q5 ok5 s5 => k1 ρ5 σ5 H5 O5 q5 ok5 (s1.trans s5), fun ρ5 σ5 H5 O5 ⟨m', hm, q5⟩ ok5 s5 => ⟨m', hm, O5, ρ5, ok5, s1.trans s5, q5⟩,
          fun ρ5 σ5 H5 O5 v d q5 ok5 s5 => k4 ρ5 σ5 H5 O5 v d q5 ok5 (s1.trans s5), fun ρ5 σ5 H5 O5 a P q5 ok5 s5 => k5 ρ5 σ5 H5 O5 a P q5 ok5 (s1.trans s5)⟩

/-! ### comprehensions -/
def wipeS (ρ : List Sl) : List Nat → List Sl
  | [] => ρ
  | v :: vs => (wipeS ρ vs).set v .un
theorem Ok.wipe {O : Own} {σ : L2.St} {H : Hp} (h : Ok Γ O ρ σ H) : ∀ vs : List Nat, Ok Γ O (wipeS ρ vs) (L2.wipe σ vs) H
  | [] => h
  | v :: vs => (Ok.wipe h vs).un v
/-- item by item: what is kept of it (or nothing) -/
inductive Built {α : Type} (Y : α → Option D → Prop) : List α → List D → Prop where
  | nil : Built Y [] []
  | keep {ds : List α} {ys : List D} {d : α} {y : D} : Built Y ds ys → Y d (some y) → Built Y (ds ++ [d]) (ys ++ [y])
  | drop {ds : List α} {ys : List D} {d : α} : Built Y ds ys → Y d none → Built Y (ds ++ [d]) ys
theorem Built.len {α : Type} {Y : α → Option D → Prop} {ds : List α} {ys : List D} (b : Built Y ds ys) : ys.length ≤ ds.length := by
  induction b with
  | nil => exact Nat.le_refl _
  | keep _ _ ih => simp only [List.length_append, List.length_singleton]; omega
  | drop _ _ ih => simp only [List.length_append, List.length_singleton]; omega
theorem Built.fmap {α : Type} {f : α → Option D} {xs : List α} {ys : List D} (b : Built (fun a o => o = f a) xs ys) : ys = xs.filterMap f := by
  induction b with
  | nil => rfl
  | keep _ h ih => rw [List.filterMap_append, ← ih]; simp [← h]
  | drop _ h ih => rw [List.filterMap_append, ← ih]; simp [← h]
theorem take_snoc {α : Type} {l : List α} {i : Nat} {d : α} (h : l[i]? = some d) : l.take (i + 1) = l.take i ++ [d] := by
  rw [List.take_add_one, h]; rfl
theorem wipe_off {vs : List Nat} {σ σ' : L2.St} (h : Off (fun i => i ∈ vs) σ σ') : L2.wipe σ' vs = L2.wipe σ vs := by
  have key : ∀ (vs : List Nat) (σ : L2.St) (j : Nat), (L2.wipe σ vs)[j]? = if j ∈ vs ∧ j < σ.length then some none else σ[j]? := by
    intro vs
    induction vs with
    | nil => intro σ j; simp [L2.wipe]
    | cons v vs ih =>
      intro σ j
      show ((L2.wipe σ vs).set v none)[j]? = _
      by_cases e : v = j
      · subst e
        by_cases hl : v < σ.length
        · rw [List.getElem?_set_self (by rw [wipe_length]; exact hl), if_pos ⟨List.mem_cons_self, hl⟩]
        · rw [List.getElem?_eq_none (by rw [List.length_set, wipe_length]; omega), if_neg (fun z => hl z.2), List.getElem?_eq_none (by omega)]
      · rw [List.getElem?_set_ne e, ih]
        by_cases hj : j ∈ vs
        · by_cases hl : j < σ.length
          · rw [if_pos ⟨hj, hl⟩, if_pos ⟨List.mem_cons_of_mem _ hj, hl⟩]
          · rw [if_neg (fun z => hl z.2), if_neg (fun z => hl z.2)]
        · rw [if_neg (fun z => hj z.1), if_neg (fun z => (List.mem_cons.mp z.1).elim (fun w => e w.symm) hj)]
  apply List.ext_getElem?
  intro j
  rw [key, key, h.1]
  by_cases hj : j ∈ vs
  · by_cases hl : j < σ.length
    · rw [if_pos ⟨hj, hl⟩, if_pos ⟨hj, hl⟩]
    · rw [if_neg (fun z => hl z.2), if_neg (fun z => hl z.2), List.getElem?_eq_none (by rw [h.1]; omega), List.getElem?_eq_none (by omega)]
  · rw [if_neg (fun z => hj z.1), if_neg (fun z => hj z.1)]
    exact h.2 j hj
theorem owns_wipe {q : Addr} : ∀ {vs : List Nat}, Owns (wipeS ρ vs) q → Owns ρ q
  | [], h => h
  | v :: vs, ⟨j, P, e⟩ => by
    have e : ((wipeS ρ vs).set v .un)[j]? = some (.own q P) := e
    rcases set_own e with z | z
    · exact owns_wipe (vs := vs) ⟨j, P, z⟩
    · cases z
theorem wipeS_out {j : Nat} : ∀ {vs : List Nat}, j ∉ vs → (wipeS ρ vs)[j]? = ρ[j]?
  | [], _ => rfl
  | v :: vs, h => by
    show ((wipeS ρ vs).set v .un)[j]? = _
    rw [List.getElem?_set_ne fun e => h (by rw [e]; exact List.mem_cons_self)]
    exact wipeS_out fun z => h (List.mem_cons_of_mem _ z)
theorem wipeS_in {j : Nat} : ∀ {vs : List Nat}, j ∈ vs → ∀ s, (wipeS ρ vs)[j]? = some s → s = .un
  | v :: vs, h, s, e => by
    have e : ((wipeS ρ vs).set v .un)[j]? = some s := e
    by_cases hv : v = j
    · subst hv
      rw [List.getElem?_set] at e
      split at e
      · split at e
        · exact (Option.some.inj e).symm
        · cases e
      · rename_i z; exact absurd rfl z
    · rw [List.getElem?_set_ne hv] at e
      rcases List.mem_cons.mp h with z | z
      · exact absurd z.symm hv
      · exact wipeS_in z s e
/-- out of a block again -/
theorem Ok.unblock {O : Own} {σ σ2 : L2.St} {H3 H4 : Hp} {ρ2 : List Sl} {vs : List Nat} (ok : Ok Γ O ρ σ H3) (ok2 : Ok Γ O ρ2 σ2 H4) (f : OffS (fun i => i ∈ vs) (L2.wipe σ vs) σ2 (wipeS ρ vs) ρ2) (k : KR (wipeS ρ vs) H3 H4) :
    Ok Γ O ρ σ H4 ∧ KR ρ H3 H4 := by
  have kr : KR ρ H3 H4 := k.sub fun a z => owns_wipe z
  refine ⟨⟨ok2.dom, ok.sup, ok2.fr, ?_, ok.ap, ok.ow, ok.dom0, ok2.wdom⟩, kr⟩
  refine ok.env.imp fun i s v e r => ?_
  cases s with
  | un => trivial
  | dat d => obtain ⟨x, ex, r⟩ := r; exact ⟨x, ex, r.keep (kr.keep ok)⟩
  | own a P =>
    obtain ⟨ev, hO, d, hP, q⟩ := r
    by_cases hi : i ∈ vs
    · have na : ¬ Owns (wipeS ρ vs) a := by
        rintro ⟨j, Q, z⟩
        by_cases hj : j ∈ vs
        · have := wipeS_in hj _ z; cases this
        · rw [wipeS_out hj] at z
          by_cases ij : i = j
          · subst ij; exact hj hi
          · exact ok.ap i j a a P Q ij e z rfl
      exact ⟨ev, hO, d, hP, q.keepO (kr.keep ok) fun o eo => k a o na eo⟩
    · have e2 : ρ2[i]? = some (.own a P) := by rw [f.sl i hi, wipeS_out hi]; exact e
      obtain ⟨w, _, r2⟩ := ok2.env.get e2
      obtain ⟨_, _, d2, hP2, q2⟩ := r2
      exact ⟨ev, hO, d2, hP2, q2⟩
/-- an owned object that no slot holds is changed -/
theorem Ok.chgO {O : Own} {σ : L2.St} {H H' : Hp} {q : Addr} (ok : Ok Γ O ρ σ H) (hO : O q) (n : ¬ Owns ρ q) (h0 : Γ.H0 q = none) (k : ∀ x o, x ≠ q → H x = some o → H' x = some o) (hq : H' q ≠ none) : Ok Γ O ρ σ H' := by
  have kp : Keep O H H' := fun x o nx e => k x o (fun z => nx (z ▸ hO)) e
  refine ⟨fun x o z => ?_, ok.sup, fun x o nx e => k x o (fun z => ?_) (ok.fr x o nx e), ok.env.imp fun i s v e r => r.keepO kp fun a P z o eo => k a o (fun w => n ⟨i, P, by rw [e, z, w]⟩) eo, ok.ap, ok.ow, ok.dom0, fun x w z => ?_⟩
  · by_cases e : x = q
    · subst e; exact hq z
    · cases r : H x with
      | none => exact ok.dom x o r
      | some u => rw [k x u e r] at z; cases z
  · subst z; rw [h0] at e; cases e
  · by_cases e : x = q
    · subst e; exact hq z
    · cases r : H x with
      | none => exact ok.wdom x w r
      | some u => rw [k x u e r] at z; cases z
section
variable {elt iter : Expr} {ifs : List Expr} {scope : Scope} {own : List (Str × Nat)}
/-- one turn of a comprehension at the item d -/
def LcTurn (X : Cx) (Γ : Gm) (ρ : List Sl) (scope : Scope) (vs : List Nat) (tg : Expr) (ifs : List Expr) (elt : Expr) (d : D) (Y : Option D → Prop) : Prop :=
  ∀ (s : Shared) (H : Hp) (C : Addr) (cl : List (Str × Addr)) (fp : List Addr), WG (X.blk s H scope (compEnvC scope cl C X.env) fp) Γ (wipeS ρ vs) tg d (fun i => i ∈ vs) fun ρ2 =>
  ∀ (s : Shared) (H : Hp) (C : Addr) (cl : List (Str × Addr)) (fp : List Addr), WTs (X.blk s H scope (compEnvC scope cl C X.env) fp) Γ ρ2 ifs fun b => (b = false → Y none) ∧ (b = true →
  ∀ (s : Shared) (H : Hp) (C : Addr) (cl : List (Str × Addr)) (fp : List Addr), WE (X.blk s H scope (compEnvC scope cl C X.env) fp) Γ ρ2 elt fun y => Y (some y))
def LcG (X : Cx) (Γ : Gm) (scope : Scope) (vs : List Nat) (tg : Expr) : TG := fun v σ H Q => ∃ (q : D × List Sl × (List Sl → Prop)), (∀ (s : Shared) (H : Hp) (C : Addr) (cl : List (Str × Addr)) (fp : List Addr), WG (X.blk s H scope (compEnvC scope cl C X.env) fp) Γ q.2.1 tg q.1 (fun i => i ∈ vs) q.2.2) ∧ tGd Γ q.2.1 q.1 (fun i => i ∈ vs) q.2.2 v σ H Q
def LcT (X : Cx) (Γ : Gm) (scope : Scope) (ifs : List Expr) : TT := fun σ H Q => ∃ (q : List Sl × (Bool → Prop)), (∀ (s : Shared) (H : Hp) (C : Addr) (cl : List (Str × Addr)) (fp : List Addr), WTs (X.blk s H scope (compEnvC scope cl C X.env) fp) Γ q.1 ifs q.2) ∧ tT Γ q.1 q.2 σ H Q
def LcE (X : Cx) (Γ : Gm) (scope : Scope) (elt : Expr) : TE := fun σ H Q => ∃ (q : List Sl × (D → Prop)), (∀ (s : Shared) (H : Hp) (C : Addr) (cl : List (Str × Addr)) (fp : List Addr), WE (X.blk s H scope (compEnvC scope cl C X.env) fp) Γ q.1 elt q.2) ∧ tE Γ q.1 q.2 σ H Q
theorem lcG_ok {vs : List Nat} (s : Shared) (H : Hp) (C : Addr) (cl : List (Str × Addr)) (fp : List Addr) : PG (X.blk s H scope (compEnvC scope cl C X.env) fp) tg (LcG X Γ scope vs tg) := pg_ex fun q h => h s H C cl fp
theorem lcT_ok (s : Shared) (H : Hp) (C : Addr) (cl : List (Str × Addr)) (fp : List Addr) : PTs (X.blk s H scope (compEnvC scope cl C X.env) fp) ifs (LcT X Γ scope ifs) := pts_ex fun q h => h s H C cl fp
theorem lcE_ok (s : Shared) (H : Hp) (C : Addr) (cl : List (Str × Addr)) (fp : List Addr) : PE (X.blk s H scope (compEnvC scope cl C X.env) fp) elt (LcE X Γ scope elt) := pe_ex fun q h => h s H C cl fp
/-- what a comprehension's reading asks -/
theorem lc_read {α : Type} {g : α → D} {vs : List Nat} {Y : α → Option D → Prop} {wi : TI} {σ : L2.St} {H : Hp} {Q : VK} {R' : List D → Prop} (hwi : ∀ RR, tI Γ ρ R' σ H RR → wi σ H RR)
    (h : ∀ items, R' items → ∃ xs : List α, items = xs.map g ∧ xs.length ≤ sizeLine ∧ (∀ a ∈ xs, LcTurn X Γ ρ scope vs tg ifs elt (g a) (Y a)) ∧ ∀ ys, Built Y xs ys → R (.lst ys))
    (q : tN Γ ρ R σ H Q) : tLc wi (LcG X Γ scope vs tg) (LcT X Γ scope ifs) (LcE X Γ scope elt) vs σ H Q := by
  obtain ⟨O, ok, k⟩ := q
  refine hwi _ ⟨O, ok, fun J H1 items ok1 k1 W hR => ?_⟩
  obtain ⟨xs, eit, hsz, turn, fin⟩ := h items hR
  have elen : items.length = xs.length := by rw [eit, List.length_map]
  intro Dn hD
  obtain ⟨nO, nW, n0⟩ := ok1.fresh hD
  have nOw : ¬ Owns ρ Dn := fun ⟨i, P, z⟩ => by
    obtain ⟨v, _, r⟩ := ok1.env.get z
    exact nO r.2.1
  refine ⟨fun i m H' => m = items.length - i ∧ i ≤ items.length ∧ Ok Γ (addO O Dn) ρ σ H' ∧ Keep O H1 H' ∧ KR ρ H1 H' ∧ ∃ acc ys, H' Dn = some (.lst acc) ∧ Reps Γ.K (addO O Dn) H' ys acc ∧ Built Y (xs.take i) ys,
    ⟨items.length, by simp, Nat.zero_le _, ok1.new hD, (Ext.new hD).keep, (Ext.new hD).kr, [], [], upd_same, Reps.nil, Built.nil⟩, ?_⟩
  rintro i m H' ⟨rfl, hi, ok', kp', kr', acc, ys, hDn, racc, bt⟩
  by_cases hlt : i < items.length
  · refine .inr ⟨W.go H' kp' i hlt, fun H2 => Ok Γ (addO O Dn) ρ σ H2 ∧ Keep O H1 H2 ∧ KR ρ H1 H2 ∧ ∃ acc ys, H2 Dn = some (.lst acc) ∧ Reps Γ.K (addO O Dn) H2 ys acc ∧ Built Y (xs.take (i + 1)) ys, fun H2 z => ⟨items.length - (i + 1), by omega, rfl, hlt, z⟩, fun x H3 y => ?_⟩
    obtain ⟨e3, d, hd, r3⟩ := W.yld H' kp' i x H3 hlt y
    have ok3 := ok'.ext e3
    obtain ⟨x0, hx0, ex0⟩ : ∃ x0, xs[i]? = some x0 ∧ g x0 = d := by
      rw [eit, List.getElem?_map] at hd
      cases q : xs[i]? with
      | none => rw [q] at hd; cases hd
      | some z => rw [q] at hd; exact ⟨z, rfl, Option.some.inj hd⟩
    subst ex0
    have hmem : x0 ∈ xs := List.mem_of_getElem? hx0
    have oO : ∀ a, addO O Dn a → O a ∨ H1 a = none := fun a z => z.elim .inl fun e => .inr (e ▸ hD)
    have okw := ok3.wipe vs
    have ht := take_snoc hx0
    refine ⟨(g x0, wipeS ρ vs, _), turn x0 hmem, addO O Dn, okw, r3 _ oO ok'.dom, fun ρ2 σ2 H2 ok2 s2 k2 f2 q2 => ⟨?_, ?_⟩⟩
    · have w1 := wipe_off f2.st
      rw [w1]
      have : ∀ (vs : List Nat) (σ : L2.St), L2.wipe (L2.wipe σ vs) vs = L2.wipe σ vs := fun vs σ => by
        refine wipe_off ⟨wipe_length σ vs, fun j n => ?_⟩
        exact wipe_out n
      exact this vs σ
    -- the frame: what the block leaves
    have nD2 : ¬ Owns (wipeS ρ vs) Dn := fun z => nOw (owns_wipe z)
    have back : ∀ {H4 : Hp}, KR ρ2 H2 H4 → Ok Γ (addO O Dn) ρ2 σ2 H4 → Ok Γ (addO O Dn) ρ σ H4 ∧ Keep O H1 H4 ∧ KR ρ H1 H4 ∧ H4 Dn = some (.lst acc) ∧ Reps Γ.K (addO O Dn) H4 ys acc := by
      intro H4 k4 o4
      have kw : KR (wipeS ρ vs) H3 H4 := k2.trans (k4.sub s2)
      obtain ⟨o5, k5⟩ := ok3.unblock o4 f2 kw
      have e3k : KR ρ H' H4 := (Ext.kr e3).trans k5
      refine ⟨o5, fun a o n ea => ?_, kr'.trans e3k, kw Dn _ nD2 (e3 _ _ hDn), racc.keep (e3k.keep ok')⟩
      have na : ¬ Owns ρ a := fun ⟨j, P, z⟩ => by
        obtain ⟨v, _, r⟩ := ok1.env.get z
        exact n r.2.1
      exact e3k a o na (kp' a o n ea)
    refine ⟨(ρ2, _), q2, addO O Dn, ok2, fun b H4 ok4 k4 q4 => ?_⟩
    obtain ⟨o5, kp5, kr5, hD5, ra5⟩ := back k4 ok4
    cases b with
    | false => exact iteF ⟨o5, kp5, kr5, acc, ys, hD5, ra5, by rw [ht]; exact bt.drop (q4.1 rfl)⟩
    | true =>
      refine iteT ⟨(ρ2, _), q4.2 rfl, addO O Dn, ok4, fun v H5 dy ok5 k5 r5 q5 => ?_⟩
      obtain ⟨o6, kp6, kr6, hD6, ra6⟩ := back (k4.trans k5) ok5
      have hlen : acc.length ≤ i := by
        have h1 := bt.len
        have h2 := racc.length
        rw [List.length_take] at h1
        omega
      refine ⟨acc, hD6, by omega, ?_⟩
      have kU : ∀ x o, x ≠ Dn → H5 x = some o → upd H5 Dn (.lst (acc ++ [v])) x = some o := fun x o n ea => by rw [upd_ne n]; exact ea
      have kK : Keep (addO O Dn) H5 (upd H5 Dn (.lst (acc ++ [v]))) := fun a o n ea => kU a o (fun z => n (.inr z)) ea
      have hn1 : ∀ a o, H1 a = some o → a ≠ Dn := fun a o ea z => by rw [z, hD] at ea; cases ea
      refine ⟨o6.chgO (.inr rfl) nOw n0 kU (by rw [upd_same]; exact fun z => nomatch z), fun a o n ea => kU a o (hn1 a o ea) (kp6 a o n ea), fun a o n ea => kU a o (hn1 a o ea) (kr6 a o n ea), acc ++ [v], ys ++ [dy], upd_same,
        (ra6.append (Reps.cons r5 Reps.nil)).keep kK, by rw [ht]; exact bt.keep q5⟩
  · have e : i = items.length := by omega
    subst e
    rw [elen, List.take_length] at bt
    exact .inl ⟨W.stop H' kp', k Dn H' (.lst ys) (new_back ok1 k1 hD) ok' (k1.trans kr') ⟨acc, hDn, racc⟩ (fin ys bt)⟩
theorem wn_lc {α : Type} {g : α → D} {Y : α → Option D → Prop} (own : List (Str × Nat)) (hi : WI X Γ ρ tg iter fun items => ∃ xs : List α, items = xs.map g ∧ xs.length ≤ sizeLine ∧ (∀ a ∈ xs, LcTurn X Γ ρ scope (own.map (·.2)) tg ifs elt (g a) (Y a)) ∧ ∀ ys, Built Y xs ys → R (.lst ys))
    (hN : X.N.Nodup) (hc : X.calm = true := by rfl) (ok : blkC X.N X.env.scope scope own = true := by kernel_rfl) (hs : ∀ x, foldedSetIterable iter X.env x = pure x := by intro _; rfl) : WN X Γ ρ (.ListComp elt [⟨tg, iter, ifs, 0⟩] scope pos) R :=
  pe_mono (pe_lc (own := own) hc hN hi (blkOk_by ok) lcG_ok lcT_ok lcE_ok hs) fun σ H Q q => lc_read (fun _ z => z) (fun items z => z) q
theorem we_lc {α : Type} {g : α → D} {Y : α → Option D → Prop} (own : List (Str × Nat)) (hi : WI X Γ ρ tg iter fun items => ∃ xs : List α, items = xs.map g ∧ xs.length ≤ sizeLine ∧ (∀ a ∈ xs, LcTurn X Γ ρ scope (own.map (·.2)) tg ifs elt (g a) (Y a)) ∧ ∀ ys, Built Y xs ys → R (.lst ys))
    (hN : X.N.Nodup) (hc : X.calm = true := by rfl) (ok : blkC X.N X.env.scope scope own = true := by kernel_rfl) (hs : ∀ x, foldedSetIterable iter X.env x = pure x := by intro _; rfl) : WE X Γ ρ (.ListComp elt [⟨tg, iter, ifs, 0⟩] scope pos) R :=
  we_new (wn_lc own hi hN hc ok hs)
/-- x = [..] -/
theorem ws_lc {α : Type} {g : α → D} {Y : α → Option D → Prop} {px : Pos} {spos : Pos} (i : Nat) (own : List (Str × Nat)) (hi : WI X Γ ρ tg iter fun items => ∃ xs : List α, items = xs.map g ∧ xs.length ≤ sizeLine ∧ (∀ a ∈ xs, LcTurn X Γ ρ scope (own.map (·.2)) tg ifs elt (g a) (Y a)) ∧ ∀ ys, Built Y xs ys → E.nx (ρ.set i (.dat (.lst ys))))
    (hN : X.N.Nodup) (hc : X.calm = true := by rfl) (hy : X.N[i]? = some x := by rfl) (hyl : X.env.scope.names.lookup x = some .local := by rfl)
    (hsw : swapsWith (.ListComp elt [⟨tg, iter, ifs, 0⟩] scope pos) (some (.Name x px)) spos.line X.env = pure true := by exact sw_true rfl rfl rfl (by decide +kernel))
    (ok : blkC X.N X.env.scope scope own = true := by kernel_rfl) (hs : ∀ x, foldedSetIterable iter X.env x = pure x := by intro _; rfl) : WS X Γ ρ (.Assign [.Name x px] (.ListComp elt [⟨tg, iter, ifs, 0⟩] scope pos) spos) E :=
  ps_mono (ps_setLc (own := own) hc hN hy hyl hsw hi (blkOk_by ok) lcG_ok lcT_ok lcE_ok hs) fun D σ H ⟨O, ok', k, _⟩ => by
    refine lc_read (R := fun d => E.nx (ρ.set i (.dat d))) (fun _ z => z) (fun items z => z) ⟨O, ok', fun a H1 d hn ok1 k1 r1 q1 => ?_⟩
    have na : ¬ O a := fun z => ok'.dom a z hn
    have lt : ∀ x, O x → addO O a x := fun x z => .inl z
    have r2 : Rep Γ.K O H1 d (.ref a) := (r1.less lt).rep na
    have o2 : Ok Γ O ρ σ H1 := ok1.drop lt (fun i b P e => by
      obtain ⟨v, _, r⟩ := ok'.env.get e
      exact r.2.1) ok'.sup
    exact k _ _ H1 O q1 (o2.setD i r2) (Stp.of (k1.keep ok'))
theorem ws_lcO {α : Type} {g : α → D} {Y : α → Option D → Prop} {px : Pos} {spos : Pos} (i : Nat) (own : List (Str × Nat)) (hi : WI X Γ ρ tg iter fun items => ∃ xs : List α, items = xs.map g ∧ xs.length ≤ sizeLine ∧ (∀ a ∈ xs, LcTurn X Γ ρ scope (own.map (·.2)) tg ifs elt (g a) (Y a)) ∧ ∀ ys, Built Y xs ys → ∀ q, ¬ Γ.W0 q → E.nx (ρ.set i (.own q fun d' => d' = .lst ys)))
    (hN : X.N.Nodup) (hc : X.calm = true := by rfl) (hy : X.N[i]? = some x := by rfl) (hyl : X.env.scope.names.lookup x = some .local := by rfl)
    (hsw : swapsWith (.ListComp elt [⟨tg, iter, ifs, 0⟩] scope pos) (some (.Name x px)) spos.line X.env = pure true := by exact sw_true rfl rfl rfl (by decide +kernel))
    (ok : blkC X.N X.env.scope scope own = true := by kernel_rfl) (hs : ∀ x, foldedSetIterable iter X.env x = pure x := by intro _; rfl) : WS X Γ ρ (.Assign [.Name x px] (.ListComp elt [⟨tg, iter, ifs, 0⟩] scope pos) spos) E :=
  ps_mono (ps_setLc (own := own) hc hN hy hyl hsw hi (blkOk_by ok) lcG_ok lcT_ok lcE_ok hs) fun D σ H ⟨O, ok', k, _⟩ => by
    refine lc_read (R := fun d => ∀ q, ¬ Γ.W0 q → E.nx (ρ.set i (.own q fun d' => d' = d))) (fun _ z => z) (fun items z => z) ⟨O, ok', fun a H1 d hn ok1 k1 r1 q1 => ?_⟩
    obtain ⟨f1, f2, f3⟩ := ok'.fresh hn
    refine k _ _ H1 (addO O a) (q1 a f2) (ok1.setO i (.inr rfl) f3 (fun j b Q hij e => ?_) r1 rfl) ⟨k1.keep ok', fun x z => z.elim .inl fun e => .inr (e ▸ hn)⟩
    obtain ⟨v, e1, e2, hO, _⟩ := ok'.env.get e
    rintro rfl
    exact f1 hO
end
end
end VL

set_option maxRecDepth 100000
set_option maxHeartbeats 4000000
namespace VL
open PySem PySem.Spec PyProof.Rows L2

/-! ### promises -/
/-- data in, data out -/
def spF (K : PySem.W.Frag) {α : Type} (enc : α → List D) (pre : α → Prop) (post : α → D → Prop) : Sp := fun vs H Q _ => ∃ (O : Own) (a : α), (∀ x, O x → H x ≠ none) ∧ Reps K O H (enc a) vs ∧ pre a ∧
  ∀ v H' d, Ext H H' → Rep K O H' d v → post a d → Q v H'
/-- data in, a new object out -/
def spN (K : PySem.W.Frag) {α : Type} (enc : α → List D) (pre : α → Prop) (post : α → D → Prop) : Sp := fun vs H Q _ => ∃ (O : Own) (a : α), (∀ x, O x → H x ≠ none) ∧ Reps K O H (enc a) vs ∧ pre a ∧
  ∀ p H' d, H p = none → Ext H H' → OwnAt K (addO O p) H' p d → post a d → Q (.ref p) H'
/-- the first argument is an owned object that stays such a one -/
def spP (K : PySem.W.Frag) {α : Type} (P : D → Prop) (enc : α → List D) (pre : α → Prop) (post : α → D → Prop) : Sp := fun vs H Q _ => ∃ (O : Own) (a : α) (p : Addr) (vs' : List V), vs = .ref p :: vs' ∧ (∀ x, O x → H x ≠ none) ∧ O p ∧
  (∃ d, P d ∧ OwnAt K O H p d) ∧ Reps K O H (enc a) vs' ∧ pre a ∧
  ∀ v H' d, (∀ x o, x ≠ p → H x = some o → H' x = some o) → (∃ d, P d ∧ OwnAt K O H' p d) → Rep K O H' d v → post a d → Q v H'
/-- a def by its name -/
structure Fn (P : Program) (w : World) (K : PySem.W.Frag) (mg : Str → Option Value) (base : Heap) (k : Nat) (x : Str) (ps : List Str) (sp : Sp) : Prop where
  ex : ∃ (f : Addr) (fd : FuncData), FnOk P w K mg base CX0 k f fd ps sp ∧ mg x = some (.ref f) ∧ PySem.W.keepIn K (.ref f) = true ∧ Binds K fd ps []

section
variable {X : Cx} {Γ : Gm} {ρ : List Sl} {tg a b c e : Expr} {es rest : List Expr} {pos p : Pos} {R : D → Prop} {Rs : List D → Prop} {x : Str} {E : De} {st : Stmt} {sts : List Stmt} {ps : List Str} {k j : Nat}
theorem wts_nil {R : Bool → Prop} (h : R true) : WTs X Γ ρ [] R := pts_mono pts_nil fun σ H Q ⟨O, ok, k⟩ => k true H ok (KR.refl H) h
theorem wts_one {R : Bool → Prop} (h : WT X Γ ρ c R) : WTs X Γ ρ [c] R := pts_one h
theorem we_call {α : Type} {enc : α → List D} {pre : α → Prop} {post : α → D → Prop} (F : Fn X.prog X.w X.K X.mg X.base k x ps (spF X.K enc pre post)) (hr : Room j X.A) (h : WA X Γ ρ (e :: es) fun ds => ∃ a, ds = enc a ∧ pre a ∧ ∀ d, post a d → R d)
    (hk : k ≤ j := by decide) (hK : Γ.K = X.K := by rfl) (hg : Gl X x := by rfl) (hdb : (x == ("__debug__" : Str)) = false := by decide) (he : starEach (e :: es) X.env = (false, eval e X.env) :: starEach es X.env := by rfl) (hpl : (backTo pos (starEach es X.env)).any (·.1) = false := by rfl) :
    WE X Γ ρ (.Call (.Name x p) (e :: es) [] pos) R := by
  obtain ⟨f, fd, F, hm, kp, hb⟩ := F.ex
  refine pe_mono (pe_call F (hr.mono hk) hg hm kp hb .nil pass0 h hdb he hpl) fun σ H Q ⟨O, ok, k⟩ => ⟨O, ok, fun vs H1 ds ok1 k1 r1 ⟨a, e1, hp, q⟩ => ?_⟩
  subst e1
  rw [hK] at r1
  rw [List.append_nil]
  exact ⟨O, a, ok1.dom, r1, hp, fun v H' d e' r' po => k v H' d (ok1.ext e') (k1.trans e'.kr) (by rw [hK]; exact r') (q d po)⟩
theorem wn_call {α : Type} {enc : α → List D} {pre : α → Prop} {post : α → D → Prop} (F : Fn X.prog X.w X.K X.mg X.base k x ps (spN X.K enc pre post)) (hr : Room j X.A) (h : WA X Γ ρ (e :: es) fun ds => ∃ a, ds = enc a ∧ pre a ∧ ∀ d, post a d → R d)
    (hk : k ≤ j := by decide) (hK : Γ.K = X.K := by rfl) (hg : Gl X x := by rfl) (hdb : (x == ("__debug__" : Str)) = false := by decide) (he : starEach (e :: es) X.env = (false, eval e X.env) :: starEach es X.env := by rfl) (hpl : (backTo pos (starEach es X.env)).any (·.1) = false := by rfl) :
    WN X Γ ρ (.Call (.Name x p) (e :: es) [] pos) R := by
  obtain ⟨f, fd, F, hm, kp, hb⟩ := F.ex
  refine pe_mono (pe_call F (hr.mono hk) hg hm kp hb .nil pass0 h hdb he hpl) fun σ H Q ⟨O, ok, k⟩ => ⟨O, ok, fun vs H1 ds ok1 k1 r1 ⟨a, e1, hp, q⟩ => ?_⟩
  subst e1
  rw [hK] at r1
  rw [List.append_nil]
  exact ⟨O, a, ok1.dom, r1, hp, fun p H' d hn e' r' po => k p H' d (new_back ok1 k1 hn) (ok1.newE hn e' r'.dom) (k1.trans e'.kr) (by rw [hK]; exact r') (q d po)⟩
/-- f(own, ..) -/
theorem we_callP {α : Type} {P : D → Prop} {enc : α → List D} {pre : α → Prop} {post : α → D → Prop} {y : Str} {py : Pos} (F : Fn X.prog X.w X.K X.mg X.base k x ps (spP X.K P enc pre post)) (i : Nat) {q : Addr} (hρ : ρ[i]? = some (.own q P)) (hr : Room j X.A)
    (h : WA X Γ ρ es fun ds => ∃ a, ds = enc a ∧ pre a ∧ ∀ d, post a d → R d)
    (hk : k ≤ j := by decide) (hN : X.N[i]? = some y := by rfl) (hv : Vis X.env.scope y := by first | exact Or.inl rfl | exact Or.inr (Or.inl rfl) | exact Or.inr (Or.inr rfl)) (hK : Γ.K = X.K := by rfl) (hg : Gl X x := by rfl) (hdb : (x == ("__debug__" : Str)) = false := by decide)
    (hd2 : (y == ("__debug__" : Str)) = false := by decide) (hcd2 : (y == ("__classdict__" : Str)) = false := by decide)
    (he : starEach (.Name y py :: es) X.env = (false, eval (.Name y py) X.env) :: starEach es X.env := by rfl) (hpl : (backTo pos (starEach es X.env)).any (·.1) = false := by rfl) :
    WE X Γ ρ (.Call (.Name x p) (.Name y py :: es) [] pos) R := by
  obtain ⟨f, fd, F, hm, kp, hb⟩ := F.ex
  refine pe_mono (pe_call F (hr.mono hk) hg hm kp hb .nil pass0 (pa_cons (pe_var hN hv hd2 hcd2) h he) hdb he hpl) fun σ H Q ⟨O, ok, k⟩ => ?_
  obtain ⟨v, e1, e2, _⟩ := ok.env.get hρ
  subst e2
  refine ⟨_, e1, O, ok, fun vs H1 ds ok1 k1 r1 ⟨a, e1, hp, qq⟩ => ?_⟩
  subst e1
  rw [hK] at r1
  rw [List.append_nil]
  obtain ⟨v', _, e2', hO, d0, hP0, q0⟩ := ok1.env.get hρ
  refine ⟨O, a, q, vs, rfl, ok1.dom, hO, ⟨d0, hP0, hK ▸ q0⟩, r1, hp, fun v H' d e' ⟨d1, hP1, q1⟩ r' po => ?_⟩
  have o2 := ok1.chg (Q := P) hρ e' (by rw [hK]; exact q1) hP1
  have hset : ρ.set i (.own q P) = ρ := (List.set_getElem_self_of hρ rfl).symm
  rw [hset] at o2
  exact k v H' d o2 (k1.trans fun a o n ea => e' a o (fun z => n ⟨i, P, by rw [z]; exact hρ⟩) ea) (by rw [hK]; exact r') (qq d po)
end

/-! ### a def from its body -/
abbrev bodyX (P : Program) (w : World) (K : PySem.W.Frag) (mg : Str → Option Value) (base : Heap) (N : List Str) (qual : Str) (scope : Scope) (f : Addr) (cdv : Value) (A : Around) (outer : List Env) (s : Shared) (H : Hp) (E : XK) : Cx :=
  (cxOf CX0 P w K mg base N qual scope f cdv A outer s H E).nox
theorem env_start {K : PySem.W.Frag} {O : Own} {H : Hp} : ∀ {ds : List D} {vs : List V} (n : Nat), Reps K O H ds vs → EnvR K O H (ds.map .dat ++ List.replicate n .un) (vs.map some ++ List.replicate n none)
  | [], vs, n, h => by
    rw [reps_nil.mp h]
    show EnvR K O H (List.replicate n .un) (List.replicate n none)
    induction n with
    | zero => trivial
    | succ n ih => exact ⟨trivial, ih⟩
  | d :: ds, vs, n, h => by
    obtain ⟨u, us, e, h1, h2⟩ := reps_cons.mp h
    subst e
    exact ⟨⟨u, rfl, h1⟩, env_start n h2⟩
/-- the owned argument is still what it was to be -/
def Still (q : Addr) (Pt : D → Prop) (ρ : List Sl) : Prop := ∃ (i : Nat) (P' : D → Prop), ρ[i]? = some (Sl.own q P') ∧ ∀ d, P' d → Pt d
/-- the slots at a body's start -/
def slots (N : List Str) (ds : List D) : List Sl := ds.map .dat ++ List.replicate (N.length - ds.length) .un
theorem no_own {ds : List D} {n i : Nat} {q : Addr} {P : D → Prop} (h : (ds.map Sl.dat ++ List.replicate n Sl.un)[i]? = some (.own q P)) : False := by
  have hm := List.mem_of_getElem? h
  rcases List.mem_append.mp hm with z | z
  · obtain ⟨d, _, e⟩ := List.mem_map.mp z; cases e
  · have := (List.mem_replicate.mp z).2; cases this
section
variable {P : Program} {w : World} {K : PySem.W.Frag} {mg : Str → Option Value} {base : Heap} {x qual : Str} {params : Arguments} {body : List Stmt} {scope : Scope} {dvs : List V} {kws : List (Str × V)} {f : Addr} {fd : FuncData} {N ps : List Str} {k : Nat}
theorem fn_F {α : Type} {enc : α → List D} {pre : α → Prop} {post : α → D → Prop} (F : FunD K x qual params body scope dvs kws f fd) (S : FnScope N ps scope) (hl : ∀ a, (enc a).length = ps.length)
    (h : ∀ (a : α), pre a → ∀ (O0 : Own) (H0 : Hp) cdv A outer s H E, Room k (A.deeper (envOfC qual scope s.heap.objs.size f cdv)) →
      WB (bodyX P w K mg base N qual scope f cdv A outer s H E) ⟨K, O0, H0, fun _ => False⟩ (slots N (enc a)) body { nx := fun _ => post a (.v .non), rt := fun _ d => post a d }) : FnOk P w K mg base CX0 (k + 1) f fd ps (spF K enc pre post) := by
  refine F.ok S (fun vs H Q E ⟨O, a, _, r, _⟩ => by rw [← r.length, hl]) fun cdv A outer s H vs Q E hr ⟨O, a, hd, r, hp, kk⟩ => ?_
  refine ⟨_, (h a hp O H cdv A outer s H E hr).nox, O, ⟨hd, fun _ z => z, fun _ _ _ e => e, ?_, ?_, ?_, hd, fun _ z => z.elim⟩, ?_, ?_, ?_, ?_, ?_⟩
  · show EnvR K O H (slots N (enc a)) (L2.start N vs)
    unfold slots L2.start
    rw [← r.length]
    exact env_start _ r
  · exact fun i j a b P Q _ e1 => (no_own e1).elim
  · exact fun i a P e => (no_own e).elim
  · exact fun ρ' σ' H' O' po ok' st => kk .non H' (.v .non) (fun a o e => ok'.fr a o (fun z => z) e) (rep_v.mpr rfl) po
  · exact fun _ _ _ _ z => z.elim
  · exact fun _ _ _ _ z => z.elim
  · exact fun ρ' σ' H' O' v d po ok' st rd => kk v H' d (fun a o e => ok'.fr a o (fun z => z) e) (rd.less ok'.sup) po
  · exact fun _ _ _ _ _ _ z => z.elim
theorem fn_N {α : Type} {enc : α → List D} {pre : α → Prop} {post : α → D → Prop} (F : FunD K x qual params body scope dvs kws f fd) (S : FnScope N ps scope) (hl : ∀ a, (enc a).length = ps.length)
    (h : ∀ (a : α), pre a → ∀ (O0 : Own) (H0 : Hp) cdv A outer s H E, Room k (A.deeper (envOfC qual scope s.heap.objs.size f cdv)) →
      WB (bodyX P w K mg base N qual scope f cdv A outer s H E) ⟨K, O0, H0, fun _ => False⟩ (slots N (enc a)) body { nx := fun _ => False, rt := fun _ _ => False, ro := fun _ _ P => ∀ d, P d → post a d }) : FnOk P w K mg base CX0 (k + 1) f fd ps (spN K enc pre post) := by
  refine F.ok S (fun vs H Q E ⟨O, a, _, r, _⟩ => by rw [← r.length, hl]) fun cdv A outer s H vs Q E hr ⟨O, a, hd, r, hp, kk⟩ => ?_
  refine ⟨_, (h a hp O H cdv A outer s H E hr).nox, O, ⟨hd, fun _ z => z, fun _ _ _ e => e, ?_, ?_, ?_, hd, fun _ z => z.elim⟩, ?_, ?_, ?_, ?_, ?_⟩
  · show EnvR K O H (slots N (enc a)) (L2.start N vs)
    unfold slots L2.start
    rw [← r.length]
    exact env_start _ r
  · exact fun i j a b P Q _ e1 => (no_own e1).elim
  · exact fun i a P e => (no_own e).elim
  · exact fun _ _ _ _ z => z.elim
  · exact fun _ _ _ _ z => z.elim
  · exact fun _ _ _ _ z => z.elim
  · exact fun _ _ _ _ _ _ z => z.elim
  · exact fun ρ' σ' H' O' q P po ok' st hO hw ⟨d, hP, qd⟩ => by
      have hn : H q = none := hw.elim (fun z => z.elim) fun z => z
      refine kk q H' d hn (fun a o e => ok'.fr a o (fun z => z) e) (qd.less fun x z => ?_) (po d hP)
      rcases z with z | z
      · exact ok'.sup x z
      · rw [z]; exact hO
/-- the first parameter an owned object -/
theorem fn_P {α : Type} {Pt : D → Prop} {enc : α → List D} {pre : α → Prop} {post : α → D → Prop} (F : FunD K x qual params body scope dvs kws f fd) (S : FnScope N ps scope) (hl : ∀ a, (enc a).length + 1 = ps.length)
    (h : ∀ (a : α), pre a → ∀ (O0 : Own) (H0 : Hp) (q : Addr) cdv A outer s H E, Room k (A.deeper (envOfC qual scope s.heap.objs.size f cdv)) →
      WB (bodyX P w K mg base N qual scope f cdv A outer s H E) ⟨K, O0, H0, fun x => x = q⟩ (.own q Pt :: ((enc a).map .dat ++ List.replicate (N.length - ((enc a).length + 1)) .un)) body
        { nx := fun ρ => Still q Pt ρ ∧ post a (.v .non), rt := fun ρ d => Still q Pt ρ ∧ post a d }) : FnOk P w K mg base CX0 (k + 1) f fd ps (spP K Pt enc pre post) := by
  refine F.ok S (fun vs H Q E ⟨O, a, p, vs', e, _, _, _, r, _⟩ => by rw [e, List.length_cons, ← r.length, hl]) fun cdv A outer s H vs Q E hr ⟨O, a, q, vs', ev, hd, hO, ⟨d0, hP0, q0⟩, r, hp, kk⟩ => ?_
  subst ev
  have own0 : ∀ {i : Nat} {b : Addr} {P' : D → Prop}, (Sl.own q Pt :: ((enc a).map Sl.dat ++ List.replicate (N.length - ((enc a).length + 1)) Sl.un))[i]? = some (.own b P') → i = 0 ∧ b = q := by
    intro i b P' e
    cases i with
    | zero => simp at e; exact ⟨rfl, e.1.symm⟩
    | succ i => exact (no_own (by simpa using e)).elim
  have fin : ∀ {ρ' : List Sl} {σ' : L2.St} {H' : Hp} {O' : Own} {Γ : Gm}, Γ.K = K → (∀ x, O x → O' x) → Ok Γ O' ρ' σ' H' → Still q Pt ρ' → ∃ d, Pt d ∧ OwnAt K O H' q d := by
    intro ρ' σ' H' O' Γ eK sub ok' ⟨i, P', e, im⟩
    obtain ⟨v, _, _, _, d, hPd, qd⟩ := ok'.env.get e
    rw [eK] at qd
    exact ⟨d, im d hPd, qd.less sub⟩
  refine ⟨_, (h a hp O H q cdv A outer s H E hr).nox, O, ⟨hd, fun _ z => z, fun _ _ _ e => e, ?_, ?_, ?_, hd, fun x z => by rw [show x = q from z]; exact hd q hO⟩, ?_, ?_, ?_, ?_, ?_⟩
  · show EnvR K O H _ (L2.start N (V.ref q :: vs'))
    unfold L2.start
    refine ⟨⟨rfl, hO, d0, hP0, q0⟩, ?_⟩
    rw [List.length_cons, ← r.length]
    exact env_start _ r
  · intro i j b c P' Q' hij e1 e2
    exact absurd ((own0 e1).1.trans (own0 e2).1.symm) hij
  · exact fun i b P' e => .inl (own0 e).2
  · exact fun ρ' σ' H' O' po ok' st => kk .non H' (.v .non) (fun a o n e => ok'.fr a o n e) (fin rfl ok'.sup ok' po.1) (rep_v.mpr rfl) po.2
  · exact fun _ _ _ _ z => z.elim
  · exact fun _ _ _ _ z => z.elim
  · exact fun ρ' σ' H' O' v d po ok' st rd => kk v H' d (fun a o n e => ok'.fr a o n e) (fin rfl ok'.sup ok' po.1) (rd.less ok'.sup) po.2
  · exact fun _ _ _ _ _ _ z => z.elim
end
end VL

set_option maxRecDepth 100000
set_option maxHeartbeats 4000000
namespace VL
open PySem PySem.Spec PyProof.Rows L2

/-! ### plain values by short names -/
abbrev iD (i : Int) : D := .v (.int i)
abbrev bD (b : Bool) : D := .v (.bl b)
abbrev nD : D := .v .non
/-- a word by its code points -/
abbrev wD (w : List Nat) : D := .v (.str (SX.S w))
theorem S_cps (w : List Nat) : (SX.S w).cps.toList = w := by simp [SX.S]
theorem S_dec {a b : List Nat} : decide (V.str (SX.S a) = V.str (SX.S b)) = decide (a = b) := by
  by_cases h : a = b
  · subst h; simp
  · rw [decide_eq_false h, decide_eq_false]
    intro z; injection z with z; exact h (SX.S_inj z)
theorem cutS_S (w : List Nat) (lo hi : Option Int) : cutS (SX.S w) lo hi = SX.S (cutL w lo hi) := by
  unfold cutS cutL
  rw [SX.S_len, S_cps]
theorem sIx_nat' {n d k : Nat} : HT.sIx n d (some (k : Int)) = min k n := HT.sIx_nat n d k
theorem cutL_to {α : Type} (w : List α) (k : Nat) : cutL w none (some (k : Int)) = w.take k := by
  unfold cutL
  rw [HT.sIx_none, HT.sIx_nat, List.drop_zero, Nat.sub_zero]
  by_cases h : k ≤ w.length
  · rw [Nat.min_eq_left h]
  · rw [Nat.min_eq_right (by omega), List.take_of_length_le (by omega), List.take_of_length_le (by omega)]
theorem cutL_from {α : Type} (w : List α) (k : Nat) : cutL w (some (k : Int)) none = w.drop k := by
  unfold cutL
  rw [HT.sIx_none, HT.sIx_nat]
  by_cases h : k ≤ w.length
  · rw [Nat.min_eq_left h, List.take_of_length_le (by rw [List.length_drop]; omega)]
  · rw [Nat.min_eq_right (by omega), List.drop_eq_nil_of_le (by omega : w.length ≤ w.length), List.drop_eq_nil_of_le (by omega : w.length ≤ k)]
    simp
theorem cutL_mid {α : Type} (w : List α) (i j : Nat) : cutL w (some (i : Int)) (some (j : Int)) = (w.drop i).take (j - i) := by
  unfold cutL
  rw [HT.sIx_nat, HT.sIx_nat]
  by_cases hi : i ≤ w.length
  · rw [Nat.min_eq_left hi]
    by_cases hj : j ≤ w.length
    · rw [Nat.min_eq_left hj]
    · rw [Nat.min_eq_right (by omega), List.take_of_length_le (by rw [List.length_drop]; omega), List.take_of_length_le (by rw [List.length_drop]; omega)]
  · rw [Nat.min_eq_right (by omega : w.length ≤ i), List.drop_eq_nil_of_le (by omega : w.length ≤ w.length), List.drop_eq_nil_of_le (by omega : w.length ≤ i)]
    simp
theorem sgnD_S (w : List Nat) : sgnD (SX.S w) = w.map fun c => wD [c] := by
  unfold sgnD
  rw [S_cps]

section
variable {X : Cx} {Γ : Gm} {ρ : List Sl} {tg a b c e : Expr} {es rest : List Expr} {pos p : Pos} {R : D → Prop} {Rs : List D → Prop} {x : Str} {E : De} {st : Stmt} {sts : List Stmt} {K : PySem.W.Frag}
theorem we_strW {j : Nat} (w : List Nat) (h : R (wD w)) (hx : x = SX.S w := by decide +kernel) : WE X Γ ρ (.Constant (.str x) j pos) R := by
  subst hx
  exact we_str h
theorem we_bltn {v : V} {u : Value} (hm : X.mg x = none) (hv : bootBuiltins x = some u) (r : RelV v u) (h : R (.v v)) (hg : Gl X x := by rfl) (hn : x ≠ "__name__" := by decide) (hd : (x == ("__debug__" : Str)) = false := by decide) : WE X Γ ρ (.Name x pos) R :=
  pe_mono (pe_bltn hg hm hv r hn hd) (tE_c h)
theorem od_addW {a b : List Nat} (hl : a.length + b.length ≤ sizeLine) (h : R (wD (a ++ b))) : OpD K (fun x y H Q => ∃ i j, x = .str i ∧ y = .str j ∧ i.length + j.length ≤ sizeLine ∧ Q (.str (i ++ j)) H) (wD a) (wD b) R :=
  od_addS (by rw [SX.S_len, SX.S_len]; exact hl) (by rw [SX.S_cat]; exact h)
theorem od_eqW {a b : List Nat} (h : R (bD (decide (a = b)))) : OpD K rEq (wD a) (wD b) R := od_eq rfl (by rw [S_dec]; exact h)
theorem od_neW {a b : List Nat} (h : R (bD (!decide (a = b)))) : OpD K rNe (wD a) (wD b) R := od_ne rfl (by rw [S_dec]; exact h)
theorem dI {i j : Int} : decide (V.int i = V.int j) = decide (i = j) := by
  by_cases h : i = j
  · subst h; simp
  · rw [decide_eq_false h, decide_eq_false]
    intro z; injection z with z; exact h z
theorem od_eqI {i j : Int} (h : R (bD (decide (i = j)))) : OpD K rEq (iD i) (iD j) R := od_eq rfl (by rw [dI]; exact h)
theorem od_neI {i j : Int} (h : R (bD (!decide (i = j)))) : OpD K rNe (iD i) (iD j) R := od_ne rfl (by rw [dI]; exact h)
theorem od_eqB {i j : Bool} (h : R (bD (i == j))) : OpD K rEq (bD i) (bD j) R := od_eq rfl (by
  have : decide (V.bl i = V.bl j) = (i == j) := L2.dec_bl
  rw [this]; exact h)
theorem od_neB {i j : Bool} (h : R (bD (i != j))) : OpD K rNe (bD i) (bD j) R := od_ne rfl (by
  have : decide (V.bl i = V.bl j) = (i == j) := L2.dec_bl
  rw [this]; exact h)
theorem sd_W {w : List Nat} {lo hi : Option Int} (hz : w.length ≤ sizeLine) (h : R (wD (cutL w lo hi))) : SlD K (rSlA K) (wD w) lo hi R := sd_S (by rw [SX.S_len]; exact hz) (by rw [cutS_S]; exact h)
theorem cd_lenW {w : List Nat} (hz : w.length ≤ sizeLine) (h : R (iD w.length)) : ClD K (rLenA K) [wD w] R := cd_lenS (by rw [SX.S_len]; exact hz) (by rw [SX.S_len]; exact h)
theorem od_ixW {w : List Nat} {i : Int} {c : Nat} (hz : w.length ≤ sizeLine) (hi : L2.atI w i = some c) (h : R (wD [c])) : OpD K (rIx K) (wD w) (iD i) R := od_ixS (by rw [SX.S_len]; exact hz) (by rw [S_cps]; exact hi) h
theorem wi_strW (h : WE X Γ ρ e fun d => ∃ w, d = wD w ∧ Rs (w.map fun c => wD [c])) : WI X Γ ρ tg e Rs := wi_str (we_imp h fun d ⟨w, e, q⟩ => ⟨SX.S w, e, by rw [sgnD_S]; exact q⟩)
/-- one sign in a text -/
theorem od_inW {w : List Nat} {c : Nat} (h : R (bD (decide (c ∈ w)))) : OpD K (fun x y H Q => ∃ (c : Nat) (z : Str), x = .str ⟨#[c]⟩ ∧ y = .str z ∧ Q (.bl (decide (c ∈ z.cps.toList))) H) (wD [c]) (wD w) R := fun O H u v Q _ rx ry k =>
  ⟨c, SX.S w, rep_v.mp rx, rep_v.mp ry, k _ H _ (Ext.refl H) (rep_v.mpr rfl) (by rw [S_cps]; exact h)⟩
theorem od_ninW {w : List Nat} {c : Nat} (h : R (bD (!decide (c ∈ w)))) : OpD K (fun x y H Q => ∃ (c : Nat) (z : Str), x = .str ⟨#[c]⟩ ∧ y = .str z ∧ Q (.bl (!decide (c ∈ z.cps.toList))) H) (wD [c]) (wD w) R := fun O H u v Q _ rx ry k =>
  ⟨c, SX.S w, rep_v.mp rx, rep_v.mp ry, k _ H _ (Ext.refl H) (rep_v.mpr rfl) (by rw [S_cps]; exact h)⟩
/-- is None -/
theorem od_isN {d : V} (h : R (bD (decide (d = .non)))) : OpD K (fun x y H Q => y = .non ∧ Q (.bl (decide (x = .non))) H) (.v d) nD R := fun O H u v Q _ rx ry k => by
  rw [rep_v.mp rx]
  exact ⟨rep_v.mp ry, k _ H _ (Ext.refl H) (rep_v.mpr rfl) h⟩
theorem od_notN {d : V} (h : R (bD (!decide (d = .non)))) : OpD K (fun x y H Q => y = .non ∧ Q (.bl (!decide (x = .non))) H) (.v d) nD R := fun O H u v Q _ rx ry k => by
  rw [rep_v.mp rx]
  exact ⟨rep_v.mp ry, k _ H _ (Ext.refl H) (rep_v.mpr rfl) h⟩
/-- a chain of two comparisons, a test -/
theorem wt_chain {Rb : Bool → Prop} {op op' : CmpOp} {r r' : R2} (ho : OpR X (compareOp op) r) (ho' : OpR X (compareOp op') r')
    (h : WE X Γ ρ a fun d1 => WE X Γ ρ b fun d2 => OpD Γ.K r d1 d2 (RB fun k => (k = true → WE X Γ ρ c fun d3 => OpD Γ.K r' d2 d3 (RB Rb)) ∧ (k = false → Rb false)))
    (hp : ∀ {ta tb tc : TE}, PE X a ta → PE X b tb → PE X c tc → PT X (.Compare a [op, op'] [b, c] pos) (tTest (tChain r r' ta tb tc)) := by intro ta tb tc h1 h2 h3; exact pt_chain (by assumption) (by assumption) h1 h2 h3) : WT X Γ ρ (.Compare a [op, op'] [b, c] pos) Rb := by
  refine pt_mono (hp h (pe_ex fun d1 (h1 : WE X Γ ρ b fun d2 => OpD Γ.K r d1 d2 (RB fun k => (k = true → WE X Γ ρ c fun d3 => OpD Γ.K r' d2 d3 (RB Rb)) ∧ (k = false → Rb false))) => h1)
    (pe_ex fun d2 (h1 : WE X Γ ρ c fun d3 => OpD Γ.K r' d2 d3 (RB Rb)) => h1)) fun σ H Q ⟨O, ok, k⟩ => ?_
  refine ⟨O, ok, fun v H1 d1 ok1 k1 r1 q1 => ⟨d1, q1, O, ok1, fun u H2 d2 ok2 k2 r2 q2 => ?_⟩⟩
  refine q2 O H2 v u _ ok2.dom (r1.keep (k2.keep ok1)) r2 fun z H3 d3 e3 r3 ⟨bb, ed, qb⟩ => ?_
  subst ed
  refine ⟨bb, rep_v.mp r3, ?_⟩
  have ok3 := ok2.ext e3
  cases bb with
  | false => exact iteF ⟨false, rfl, k false H3 ok3 ((k1.trans k2).trans e3.kr) (qb.2 rfl)⟩
  | true =>
    refine iteT ⟨d2, qb.1 rfl, O, ok3, fun y H4 d4 ok4 k4 r4 q4 => ?_⟩
    refine q4 O H4 u y _ ok4.dom ((r2.keep e3.keep).keep (k4.keep ok3)) r4 fun z' H5 d5 e5 r5 ⟨b5, e5', q5⟩ => ?_
    subst e5'
    exact ⟨b5, rep_v.mp r5, k b5 H5 (ok4.ext e5) ((((k1.trans k2).trans e3.kr).trans k4).trans e5.kr) q5⟩
theorem we_chain {op op' : CmpOp} {r r' : R2} (ho : OpR X (compareOp op) r) (ho' : OpR X (compareOp op') r')
    (h : WE X Γ ρ a fun d1 => WE X Γ ρ b fun d2 => OpD Γ.K r d1 d2 (RB fun k => (k = true → WE X Γ ρ c fun d3 => OpD Γ.K r' d2 d3 R) ∧ (k = false → R (bD false))))
    (hp : ∀ {ta tb tc : TE}, PE X a ta → PE X b tb → PE X c tc → PE X (.Compare a [op, op'] [b, c] pos) (tChain r r' ta tb tc) := by intro ta tb tc h1 h2 h3; exact pe_chain (by assumption) (by assumption) h1 h2 h3) : WE X Γ ρ (.Compare a [op, op'] [b, c] pos) R := by
  refine pe_mono (hp h (pe_ex fun d1 (h1 : WE X Γ ρ b fun d2 => OpD Γ.K r d1 d2 (RB fun k => (k = true → WE X Γ ρ c fun d3 => OpD Γ.K r' d2 d3 R) ∧ (k = false → R (bD false)))) => h1)
    (pe_ex fun d2 (h1 : WE X Γ ρ c fun d3 => OpD Γ.K r' d2 d3 R) => h1)) fun σ H Q ⟨O, ok, k⟩ => ?_
  refine ⟨O, ok, fun v H1 d1 ok1 k1 r1 q1 => ⟨d1, q1, O, ok1, fun u H2 d2 ok2 k2 r2 q2 => ?_⟩⟩
  refine q2 O H2 v u _ ok2.dom (r1.keep (k2.keep ok1)) r2 fun z H3 d3 e3 r3 ⟨bb, ed, qb⟩ => ?_
  subst ed
  refine ⟨bb, rep_v.mp r3, ?_⟩
  have ok3 := ok2.ext e3
  cases bb with
  | false => exact iteF (k _ H3 (bD false) ok3 ((k1.trans k2).trans e3.kr) (rep_v.mpr rfl) (qb.2 rfl))
  | true =>
    refine iteT ⟨d2, qb.1 rfl, O, ok3, fun y H4 d4 ok4 k4 r4 q4 => ?_⟩
    exact q4 O H4 u y _ ok4.dom ((r2.keep e3.keep).keep (k4.keep ok3)) r4 fun z' H5 d5 e5 r5 q5 => k z' H5 d5 (ok4.ext e5) ((((k1.trans k2).trans e3.kr).trans k4).trans e5.kr) r5 q5

/-! ### isinstance -/
def tyD : D → String
  | .v .non => "NoneType"
  | .v (.bl _) => "bool"
  | .v (.int _) => "int"
  | .v (.str _) => "str"
  | .tup _ => "tuple"
  | .lst _ => "list"
  | .dK _ _ => "dict"
  | _ => ""
theorem tyX_of {O : Own} {H : Hp} {d : D} {u : V} (h : tyD d ≠ "") (r : Rep K O H d u) : TyX K H u (.type (tyD d)) := by
  cases d with
  | v x =>
    rw [rep_v.mp r]
    cases x with
    | non => exact .base .non
    | bl b => exact .base (.bl b)
    | int i => exact .base (.int i)
    | str s => exact .base (.str s)
    | _ => exact absurd rfl h
  | tup l =>
    obtain ⟨a, vs, rfl, s, _⟩ := rep_tup.mp r
    rcases s with ⟨_, s | ⟨o, s⟩⟩ | s
    · exact .base (.tup s)
    · exact .fTuple s
    · rcases s with s | ⟨o, its, n, hk, hc, _⟩
      · exact absurd rfl (rd_dom s)
      · exact .kTuple hk hc
  | lst l =>
    obtain ⟨a, vs, rfl, s, _⟩ := rep_lst.mp r
    rcases s with ⟨_, s | ⟨o, s⟩⟩ | s
    · exact .base (.lst s)
    · exact .base (.frz s)
    · rcases s with s | ⟨o, its, n, hk, hc, _⟩
      · exact absurd rfl (rd_dom s)
      · exact .kList hk hc
  | dK ks l =>
    obtain ⟨a, vs, rfl, _, s, _⟩ := rep_dK.mp r
    rcases s with s | ⟨o, s⟩
    · exact .base (.dK s)
    · exact .fDict s
  | _ => exact absurd rfl h
theorem cd_isi {d : D} {n : String} {k : Bool} (hb : kitB (tyD d) n = some k) (hd : tyD d ≠ "") (h : R (bD k)) : ClD K (rIsi K) [d, .v (.ty n)] R := fun O H xs Q _ r kk => by
  obtain ⟨u, w, rfl, r1, r2⟩ := reps2 r
  rw [rep_v.mp r2]
  exact ⟨u, .ty n, .type (tyD d), .type n, k, rfl, .ty n, tyX_of hd r1, kit_ty hb, kk _ H _ (Ext.refl H) (rep_v.mpr rfl) h⟩

/-! ### == at any depth -/
mutual
def toPy : D → Option PyData
  | .v .non => some .none
  | .v (.bl b) => some (.bool b)
  | .v (.int i) => some (.int i)
  | .v (.str s) => some (.str s)
  | .tup l => (toPys l).map .tuple
  | .lst l => (toPys l).map .list
  | _ => none
def toPys : List D → Option (List PyData)
  | [] => some []
  | d :: r => (toPy d).bind fun x => (toPys r).map fun xs => x :: xs
end
mutual
theorem rep_dp {O : Own} {H : Hp} : ∀ (d : D) (u : V) (q : PyData), Rep K O H d u → toPy d = some q → Dp K H u q
  | .v x, u, q, r, e => by
    rw [rep_v.mp r]
    cases x with
    | non => simp [toPy] at e; subst e; exact .non
    | bl b => simp [toPy] at e; subst e; exact .bl b
    | int i => simp [toPy] at e; subst e; exact .int i
    | str s => simp [toPy] at e; subst e; exact .str s
    | _ => simp [toPy] at e
  | .tup l, u, q, r, e => by
    obtain ⟨a, vs, rfl, s, rs⟩ := rep_tup.mp r
    simp only [toPy, Option.map_eq_some_iff] at e
    obtain ⟨qs, e1, e2⟩ := e
    subst e2
    exact .tup s.sq (reps_dp l vs qs rs e1)
  | .lst l, u, q, r, e => by
    obtain ⟨a, vs, rfl, s, rs⟩ := rep_lst.mp r
    simp only [toPy, Option.map_eq_some_iff] at e
    obtain ⟨qs, e1, e2⟩ := e
    subst e2
    exact .lst s.sq (reps_dp l vs qs rs e1)
  | .dK _ _, u, q, r, e => by simp [toPy] at e
  | .dT _ _, u, q, r, e => by simp [toPy] at e
  | .rng _ _, u, q, r, e => by simp [toPy] at e
theorem reps_dp {O : Own} {H : Hp} : ∀ (l : List D) (us : List V) (qs : List PyData), Reps K O H l us → toPys l = some qs → DpAll K H us qs
  | [], us, qs, r, e => by
    rw [reps_nil.mp r]
    simp [toPys] at e
    subst e
    exact .nil
  | d :: l, us, qs, r, e => by
    obtain ⟨u, us', e1, r1, r2⟩ := reps_cons.mp r
    subst e1
    simp only [toPys, Option.bind_eq_some_iff, Option.map_eq_some_iff] at e
    obtain ⟨q, e2, qs', e3, e4⟩ := e
    subst e4
    exact .cons (rep_dp d u q r1 e2) (reps_dp l us' qs' r2 e3)
end
theorem od_eqD {d1 d2 : D} {q1 q2 : PyData} (h1 : toPy d1 = some q1) (h2 : toPy d2 = some q2) (s1 : SeqAt.shaped q1 = true) (s2 : SeqAt.shaped q2 = true) (h : R (bD (PyData.eqv q1 q2))) : OpD K (rEqD K) d1 d2 R := fun O H x y Q _ rx ry k =>
  ⟨q1, q2, rep_dp d1 x q1 rx h1, rep_dp d2 y q2 ry h2, s1, s2, k _ H _ (Ext.refl H) (rep_v.mpr rfl) h⟩
theorem od_neD {d1 d2 : D} {q1 q2 : PyData} (h1 : toPy d1 = some q1) (h2 : toPy d2 = some q2) (s1 : SeqAt.shaped q1 = true) (s2 : SeqAt.shaped q2 = true) (h : R (bD (!PyData.eqv q1 q2))) : OpD K (rNeD K) d1 d2 R := fun O H x y Q _ rx ry k =>
  ⟨q1, q2, rep_dp d1 x q1 rx h1, rep_dp d2 y q2 ry h2, s1, s2, k _ H _ (Ext.refl H) (rep_v.mpr rfl) h⟩

/-! ### owned objects, read and changed -/
/-- what is hidden is told -/
theorem wb_open (i : Nat) {q : Addr} {P : D → Prop} (hρ : ρ[i]? = some (.own q P)) (h : ∀ d, P d → WB X Γ (ρ.set i (.own q fun d' => d' = d)) sts E) : WB X Γ ρ sts E :=
  pss_mono (pss_ex (ι := D) (P := P) (t := fun d => tD Γ (ρ.set i (.own q fun d' => d' = d)) E) fun d hd => h d hd) fun D' σ H ⟨O, ok, k⟩ => by
    obtain ⟨v, hv, ev, hO, d, hP, qd⟩ := ok.env.get hρ
    have o2 := ok.chg (Q := fun d' => d' = d) (d := d) hρ (fun x o _ e => e) qd rfl
    exact ⟨d, hP, O, o2, k⟩
/-- an item of an own list -/
theorem we_ixO (i : Nat) {q : Addr} {l : List D} {y : Str} {py : Pos} (hρ : ρ[i]? = some (.own q fun d' => d' = .lst l)) (h : WE X Γ ρ b fun d2 => ∃ (k : Int) (d : D), d2 = iD k ∧ L2.atI l k = some d ∧ R d)
    (hK : Γ.K = X.K := by rfl) (hN : X.N[i]? = some y := by rfl) (hv : Vis X.env.scope y := by first | exact Or.inl rfl | exact Or.inr (Or.inl rfl) | exact Or.inr (Or.inr rfl))
    (hd2 : (y == ("__debug__" : Str)) = false := by decide) (hcd2 : (y == ("__classdict__" : Str)) = false := by decide) (hs : PlainIx b := by intro _ _; rfl) : WE X Γ ρ (.Subscript (.Name y py) b pos) R :=
  pe_mono (pe_ix ix_seq (pe_var hN hv hd2 hcd2) h hs) fun σ H Q ⟨O, ok, k⟩ => by
    obtain ⟨v, e1, e2, _⟩ := ok.env.get hρ
    subst e2
    refine ⟨_, e1, O, ok, fun u H2 d2 ok2 k2 r2 ⟨j, d, ed, hj, hR⟩ => ?_⟩
    subst ed
    obtain ⟨v', e1', e2', hO, d0, rfl, vs, hq, rs⟩ := ok2.env.get hρ
    obtain ⟨w, hw, rw'⟩ := rs.atI hj
    exact .inl ⟨q, vs, j, w, rfl, rep_v.mp r2, .inl (.inl hq), hw, k w H2 d ok2 k2 rw' hR⟩
theorem we_ixO' (i : Nat) {q : Addr} {d0 : D} {l : List D} {y : Str} {py : Pos} (hρ : ρ[i]? = some (.own q fun d' => d' = d0)) (hl : d0 = .lst l) (h : WE X Γ ρ b fun d2 => ∃ (k : Int) (d : D), d2 = iD k ∧ L2.atI l k = some d ∧ R d)
    (hK : Γ.K = X.K := by rfl) (hN : X.N[i]? = some y := by rfl) (hv : Vis X.env.scope y := by first | exact Or.inl rfl | exact Or.inr (Or.inl rfl) | exact Or.inr (Or.inr rfl))
    (hd2 : (y == ("__debug__" : Str)) = false := by decide) (hcd2 : (y == ("__classdict__" : Str)) = false := by decide) (hs : PlainIx b := by intro _ _; rfl) : WE X Γ ρ (.Subscript (.Name y py) b pos) R := by
  subst hl
  exact we_ixO i hρ h hK hN hv hd2 hcd2 hs
/-- xs[i] = d, an own list -/
theorem wg_subO (i : Nat) {q : Addr} {l : List D} {y : Str} {py : Pos} {d : D} {W : Nat → Prop} {Rr : List Sl → Prop} (hρ : ρ[i]? = some (.own q fun d' => d' = .lst l))
    (h : WE X Γ ρ b fun d2 => ∃ (k : Int) (j : Nat), d2 = iD k ∧ ixN l.length k = some j ∧ Rr (ρ.set i (.own q fun d' => d' = .lst (l.set j d)))) (hW : W i := by trivial)
    (hN : X.N[i]? = some y := by rfl) (hv : Vis X.env.scope y := by first | exact Or.inl rfl | exact Or.inr (Or.inl rfl) | exact Or.inr (Or.inr rfl))
    (hd2 : (y == ("__debug__" : Str)) = false := by decide) (hcd2 : (y == ("__classdict__" : Str)) = false := by decide)
    (hp : ∀ {to ti : TE}, PE X (.Name y py) to → PE X b ti → PG X (.Subscript (.Name y py) b pos) (gSub to ti rSetL) := by intro to ti h1 h2; exact pg_sub h1 h2 set_list) : WG X Γ ρ (.Subscript (.Name y py) b pos) d W Rr :=
  pg_mono (hp (pe_var hN hv hd2 hcd2) h) fun v σ H Q ⟨O, ok, r, k⟩ => by
    obtain ⟨v0, e1, e2, _⟩ := ok.env.get hρ
    subst e2
    refine ⟨_, e1, O, ok, fun u H2 d2 ok2 k2 r2 ⟨kk, j, ed, hj, hR⟩ => ?_⟩
    subst ed
    obtain ⟨v', e1', e2', hO, d0, rfl, vs, hq, rs⟩ := ok2.env.get hρ
    have r' := r.keep (k2.keep ok)
    have nq : ∀ x o, x ≠ q → H2 x = some o → upd H2 q (.lst (vs.set j v)) x = some o := fun x o n e => by rw [upd_ne n]; exact e
    have kp : Keep O H2 (upd H2 q (.lst (vs.set j v))) := fun x o n e => nq x o (fun z => n (z ▸ hO)) e
    have o3 := ok2.chg (Q := fun d' => d' = .lst (l.set j d)) (d := .lst (l.set j d)) (H' := upd H2 q (.lst (vs.set j v))) hρ nq ⟨_, upd_same, (rs.set j r').keep kp⟩ rfl
    refine ⟨q, vs, kk, j, rfl, rep_v.mp r2, hq, by rw [← rs.length]; exact hj, ?_⟩
    refine k _ σ _ o3 (fun x z => ?_) (k2.trans fun x o n e => nq x o (fun z => n ⟨i, (fun d' => d' = .lst l), z ▸ hρ⟩) e) ⟨Off.refl σ, fun j' n => List.getElem?_set_ne fun z => n (by rw [← z]; exact hW)⟩ hR
    obtain ⟨j', P', e⟩ := z
    rcases set_own e with z | z
    · exact ⟨j', P', z⟩
    · cases z; exact ⟨i, _, hρ⟩
/-- xs.append(d), an own list -/
theorem ws_append (i : Nat) {q : Addr} {l : List D} {y : Str} {py apos cpos : Pos} (hρ : ρ[i]? = some (.own q fun d' => d' = .lst l))
    (h : WE X Γ ρ e fun d => l.length < sizeLine ∧ E.nx (ρ.set i (.own q fun d' => d' = .lst (l ++ [d])))) (hK : Γ.K = X.K := by rfl)
    (hN : X.N[i]? = some y := by rfl) (hv : Vis X.env.scope y := by first | exact Or.inl rfl | exact Or.inr (Or.inl rfl) | exact Or.inr (Or.inr rfl))
    (hd2 : (y == ("__debug__" : Str)) = false := by decide) (hcd2 : (y == ("__classdict__" : Str)) = false := by decide)
    (hp : ∀ {ta te : TE}, PE X (.Name y py) ta → PE X e te → PS X (.Expr (.Call (.Attribute (.Name y py) "append" apos) [e] [] cpos) pos) (tDrop (tBM X.K "list" rAppend ta (tCons te tNil))) := by
      intro ta te h1 h2; exact ps_expr (pe_bm PySem.F.plainAttrs_list PySem.F.slot_list_append PySem.F.type_list_append mt_append h1 (pa_cons h2 pa_nil))) :
    WS X Γ ρ (.Expr (.Call (.Attribute (.Name y py) "append" apos) [e] [] cpos) pos) E :=
  ps_mono (hp (pe_var hN hv hd2 hcd2) h) fun D' σ H ⟨O, ok, k, _⟩ => by
    obtain ⟨v0, e1, e2, _, d00, rfl, vs0, hq0, rs0⟩ := ok.env.get hρ
    subst e2
    refine ⟨_, e1, .inl ⟨rfl, _, .inl (.inl hq0)⟩, O, ok, fun u H2 d2 ok2 k2 r2 ⟨hlt, hR⟩ => ?_⟩
    obtain ⟨v', e1', e2', hO, d0, rfl, vs, hq, rs⟩ := ok2.env.get hρ
    have nq : ∀ x o, x ≠ q → H2 x = some o → upd H2 q (.lst (vs ++ [u])) x = some o := fun x o n e => by rw [upd_ne n]; exact e
    have kp : Keep O H2 (upd H2 q (.lst (vs ++ [u]))) := fun x o n e => nq x o (fun z => n (z ▸ hO)) e
    have o3 := ok2.chg (Q := fun d' => d' = .lst (l ++ [d2])) (d := .lst (l ++ [d2])) (H' := upd H2 q (.lst (vs ++ [u]))) hρ nq ⟨_, upd_same, (rs.append (Reps.cons r2 Reps.nil)).keep kp⟩ rfl
    exact ⟨q, vs, u, rfl, rfl, hq, by rw [← rs.length]; exact hlt, k _ _ _ O hR o3 ((Stp.of (k2.keep ok)).trans (Stp.of kp))⟩
end
end VL

set_option maxRecDepth 100000
set_option maxHeartbeats 4000000
namespace VL
open PySem PySem.Spec PyProof.Rows L2

def Ev (X : Cx) (Γ : Gm) (ρ : List Sl) (e : Expr) (d : D) : Prop := WE X Γ ρ e fun r => r = d
def EvN (X : Cx) (Γ : Gm) (ρ : List Sl) (e : Expr) (d : D) : Prop := WN X Γ ρ e fun r => r = d
def EvT (X : Cx) (Γ : Gm) (ρ : List Sl) (e : Expr) (k : Bool) : Prop := WT X Γ ρ e fun r => r = k
def EvW (X : Cx) (Γ : Gm) (ρ : List Sl) (e : Expr) (k : Bool) : Prop := WW X Γ ρ e fun r => r = k
def EvA (X : Cx) (Γ : Gm) (ρ : List Sl) (es : List Expr) (ds : List D) : Prop := WA X Γ ρ es fun r => r = ds
def EvO (X : Cx) (Γ : Gm) (ρ : List Sl) (o : Option Expr) (i : Option Int) : Prop := WO X Γ ρ o fun r => r = i
section
variable {X : Cx} {Γ : Gm} {ρ : List Sl} {tg a b c e : Expr} {es rest : List Expr} {pos p : Pos} {R : D → Prop} {Rs : List D → Prop} {x : Str} {E : De} {st : Stmt} {sts : List Stmt} {K : PySem.W.Frag} {d d1 d2 d3 : D} {ds : List D}
theorem wa_imp {R' : List D → Prop} (h : WA X Γ ρ es R') (m : ∀ d, R' d → Rs d) : WA X Γ ρ es Rs := pa_mono h fun σ H Q ⟨O, ok, k⟩ => ⟨O, ok, fun v H' d o1 k1 r1 h1 => k v H' d o1 k1 r1 (m d h1)⟩
theorem wt_imp {R R' : Bool → Prop} (h : WT X Γ ρ e R') (m : ∀ d, R' d → R d) : WT X Γ ρ e R := pt_mono h fun σ H Q ⟨O, ok, k⟩ => ⟨O, ok, fun v H' o1 k1 h1 => k v H' o1 k1 (m v h1)⟩
theorem wo_imp {R R' : Option Int → Prop} {o : Option Expr} (h : WO X Γ ρ o R') (m : ∀ d, R' d → R d) : WO X Γ ρ o R := po_mono h fun σ H Q ⟨O, ok, k⟩ => ⟨O, ok, fun v H' o1 k1 h1 => k v H' o1 k1 (m v h1)⟩
theorem wn_imp {R' : D → Prop} (h : WN X Γ ρ e R') (m : ∀ d, R' d → R d) : WN X Γ ρ e R := pe_mono h fun σ H Q ⟨O, ok, k⟩ => ⟨O, ok, fun a H' d hn o1 k1 r1 h1 => k a H' d hn o1 k1 r1 (m d h1)⟩
theorem Ev.we (h : Ev X Γ ρ e d) (q : R d) : WE X Γ ρ e R := we_imp h fun _ z => z ▸ q
theorem EvN.wn (h : EvN X Γ ρ e d) (q : R d) : WN X Γ ρ e R := wn_imp h fun _ z => z ▸ q
theorem EvN.ev (h : EvN X Γ ρ e d) : Ev X Γ ρ e d := we_new h
theorem EvA.wa (h : EvA X Γ ρ es ds) (q : Rs ds) : WA X Γ ρ es Rs := wa_imp h fun _ z => z ▸ q
theorem EvT.wt {k : Bool} {R : Bool → Prop} (h : EvT X Γ ρ e k) (q : R k) : WT X Γ ρ e R := wt_imp h fun _ z => z ▸ q
theorem EvO.wo {o : Option Expr} {k : Option Int} {R : Option Int → Prop} (h : EvO X Γ ρ o k) (q : R k) : WO X Γ ρ o R := wo_imp h fun _ z => z ▸ q
theorem Ev.to (h : Ev X Γ ρ e d) (q : d = d1) : Ev X Γ ρ e d1 := q ▸ h

/-! names, constants -/
theorem ev_var (i : Nat) (hρ : ρ[i]? = some (.dat d) := by rfl) (hN : X.N[i]? = some x := by rfl) (hv : Vis X.env.scope x := by first | exact Or.inl rfl | exact Or.inr (Or.inl rfl) | exact Or.inr (Or.inr rfl))
    (hd : (x == ("__debug__" : Str)) = false := by decide) (hcd : (x == ("__classdict__" : Str)) = false := by decide) : Ev X Γ ρ (.Name x pos) d := we_var i hρ rfl hN hv hd hcd
theorem ev_int {i : Int} {j : Nat} : Ev X Γ ρ (.Constant (.int i) j pos) (iD i) := we_int rfl
theorem ev_bl {i : Bool} {j : Nat} : Ev X Γ ρ (.Constant (.bool i) j pos) (bD i) := we_bl rfl
theorem ev_non {j : Nat} : Ev X Γ ρ (.Constant .none j pos) nD := we_non rfl
theorem ev_str {j : Nat} (w : List Nat) (hx : x = SX.S w := by decide +kernel) : Ev X Γ ρ (.Constant (.str x) j pos) (wD w) := we_strW w rfl hx
theorem ev_gI {i : Int} (hm : ∃ t, X.mg x = some (.int i t)) (hg : Gl X x := by rfl) (hd : (x == ("__debug__" : Str)) = false := by decide) : Ev X Γ ρ (.Name x pos) (iD i) := by
  obtain ⟨t, hm⟩ := hm
  exact we_glob (v := .int i) ⟨_, hm, t, rfl⟩ rfl hg hd
theorem ev_gW {z : Str} (w : List Nat) (hm : ∃ t, X.mg x = some (.str z t)) (hz : z = SX.S w := by decide +kernel) (hg : Gl X x := by rfl) (hd : (x == ("__debug__" : Str)) = false := by decide) : Ev X Γ ρ (.Name x pos) (wD w) := by
  obtain ⟨t, hm⟩ := hm
  subst hz
  exact we_glob (v := .str (SX.S w)) ⟨_, hm, t, rfl⟩ rfl hg hd
theorem ev_ty {n : String} (hm : X.mg x = none) (hv : bootBuiltins x = some (.type n) := by decide +kernel) (hg : Gl X x := by rfl) (hn : x ≠ "__name__" := by decide) (hd : (x == ("__debug__" : Str)) = false := by decide) : Ev X Γ ρ (.Name x pos) (.v (.ty n)) := we_bltn (v := .ty n) hm hv rfl rfl hg hn hd
/-! arguments -/
theorem ea_nil : EvA X Γ ρ [] [] := wa_nil rfl
theorem ea_cons (h : Ev X Γ ρ e d) (hs : EvA X Γ ρ es ds) (hst : starEach (e :: es) X.env = (false, eval e X.env) :: starEach es X.env := by rfl) : EvA X Γ ρ (e :: es) (d :: ds) := wa_cons (h.we (hs.wa rfl)) hst
theorem ev_tup {k : Nat} (h : EvA X Γ ρ es ds) (hl : ds.length ≤ sizeLine := by first | decide | (simp only [List.length_cons, List.length_nil]; decide)) : Ev X Γ ρ (.Tuple es k pos) (.tup ds) := we_tup (h.wa ⟨hl, rfl⟩)
theorem evn_lst (h : EvA X Γ ρ es ds) (hl : ds.length ≤ sizeLine := by first | decide | (simp only [List.length_cons, List.length_nil]; decide)) : EvN X Γ ρ (.List es pos) (.lst ds) := wn_lst (h.wa ⟨hl, rfl⟩)
theorem ev_lst (h : EvA X Γ ρ es ds) (hl : ds.length ≤ sizeLine := by first | decide | (simp only [List.length_cons, List.length_nil]; decide)) : Ev X Γ ρ (.List es pos) (.lst ds) := (evn_lst h hl).ev
/-! operators -/
variable {i j : Int}
theorem ev_op {op : Operator} {r : R2} (ho : OpR X (binaryOp op) r) (ha : Ev X Γ ρ a d1) (hb : Ev X Γ ρ b d2) (h : OpD Γ.K r d1 d2 fun z => z = d) : Ev X Γ ρ (.BinOp a op b pos) d := we_op ho (ha.we (hb.we h))
theorem ev_addI (ha : Ev X Γ ρ a (iD i)) (hb : Ev X Γ ρ b (iD j)) : Ev X Γ ρ (.BinOp a .Add b pos) (iD (i + j)) := ev_op op_add ha hb (od_I0 (K := Γ.K) rfl)
theorem ev_subI (ha : Ev X Γ ρ a (iD i)) (hb : Ev X Γ ρ b (iD j)) : Ev X Γ ρ (.BinOp a .Sub b pos) (iD (i - j)) := ev_op op_sub ha hb (od_I0 (K := Γ.K) rfl)
theorem ev_mulI (ha : Ev X Γ ρ a (iD i)) (hb : Ev X Γ ρ b (iD j)) (hc : CMul i j) : Ev X Γ ρ (.BinOp a .Mult b pos) (iD (i * j)) := ev_op op_mul ha hb (od_I (K := Γ.K) hc rfl)
theorem ev_fdiv (ha : Ev X Γ ρ a (iD i)) (hb : Ev X Γ ρ b (iD j)) (hc : CDiv i j) : Ev X Γ ρ (.BinOp a .FloorDiv b pos) (iD (i / j)) := ev_op op_fdiv ha hb (od_I (K := Γ.K) hc rfl)
theorem ev_mod (ha : Ev X Γ ρ a (iD i)) (hb : Ev X Γ ρ b (iD j)) (hc : 0 < j) : Ev X Γ ρ (.BinOp a .Mod b pos) (iD (i % j)) := ev_op op_mod ha hb (od_I (K := Γ.K) hc rfl)
theorem ev_pow (ha : Ev X Γ ρ a (iD i)) (hb : Ev X Γ ρ b (iD j)) (hc : CPow i j) : Ev X Γ ρ (.BinOp a .Pow b pos) (iD (i ^ j.toNat)) := ev_op op_pow ha hb (od_I (K := Γ.K) hc rfl)
theorem ev_addW {u w : List Nat} (ha : Ev X Γ ρ a (wD u)) (hb : Ev X Γ ρ b (wD w)) (hl : u.length + w.length ≤ sizeLine) : Ev X Γ ρ (.BinOp a .Add b pos) (wD (u ++ w)) := ev_op op_add_str ha hb (od_addW (K := Γ.K) hl rfl)
theorem ev_neg (ha : Ev X Γ ρ a (iD i)) : Ev X Γ ρ (.UnaryOp .USub a pos) (iD (-i)) := we_neg (ha.we ⟨i, rfl, rfl⟩)
/-! lists joined -/
def rCatR (K : PySem.W.Frag) : R2 := fun x y H Q => ∃ l b xs zs, x = .ref l ∧ y = .ref b ∧ SqL K H l xs ∧ SqL K H b zs ∧ xs.length + zs.length ≤ sizeLine ∧ ∀ p, H p = none → Q (.ref p) (upd H p (.lst (xs ++ zs)))
theorem op_catR : OpR X (binaryOp .Add) (rCatR X.K) := by
  intro pins s σ H x y v u Q I rx ry h
  obtain ⟨l, b, xs, zs, rfl, rfl, hH, hB, hz, q⟩ := h
  cases rx
  cases ry
  obtain ⟨its, r, ⟨⟨cls, dd, data, sl⟩, n, ho, hc, hdn, hdt⟩, _⟩ := I.list hH
  obtain ⟨its2, r2, ⟨⟨cls2, dd2, data2, sl2⟩, n2, ho2, hc2, hdn2, hdt2⟩, _⟩ := I.list hB
  have hl := r.length
  have hl2 := r2.length
  simp only at hc hdt hc2 hdt2
  subst hc hdt hc2 hdt2
  have ea : its.toArray ++ its2.toArray = (its ++ its2).toArray := by simp
  refine concat_meets ⟨_, ho, rfl⟩ ⟨_, ho2, rfl⟩ noFill_list_add seq_list_add PySem.F.slot_list_add PySem.F.entry_list_add (PySem.F.args_list_add_2 _ _) (list_addW l b its.toArray its2.toArray n n2 dd dd2 sl sl2 (by simpa using (by omega : its.length + its2.length ≤ sizeLine))) ⟨ho, ho2, ?_⟩
  rw [ea]
  exact ⟨.ref _, _, I.lnew (t' := s.toks) (r.append r2) (by rw [List.length_append]; omega), rfl, q _ I.fresh⟩
theorem od_cat {l m : List D} (hl : l.length + m.length ≤ sizeLine) (h : R (.lst (l ++ m))) : OpD K (rCatR K) (.lst l) (.lst m) R := fun O H x y Q hd rx ry k => by
  obtain ⟨a1, vs, rfl, s, rs⟩ := rep_lst.mp rx
  obtain ⟨a2, ws, rfl, s2, rs2⟩ := rep_lst.mp ry
  refine ⟨a1, a2, vs, ws, rfl, rfl, s.sq, s2.sq, by rw [← rs.length, ← rs2.length]; exact hl, fun q hq => k _ _ (.lst (l ++ m)) (Ext.new hq) ?_ h⟩
  exact rep_lst.mpr ⟨q, _, rfl, .inl ⟨fun z => hd q z hq, .inl upd_same⟩, (rs.append rs2).keep (Ext.new hq).keep⟩
theorem ev_cat {l m : List D} (ha : Ev X Γ ρ a (.lst l)) (hb : Ev X Γ ρ b (.lst m)) (hl : l.length + m.length ≤ sizeLine) (hK : Γ.K = X.K := by rfl) : Ev X Γ ρ (.BinOp a .Add b pos) (.lst (l ++ m)) := ev_op op_catR ha hb (by rw [hK]; exact od_cat hl rfl)
/-! and, or, not, if: values -/
theorem ev_one {op : BoolOp} (h : Ev X Γ ρ a d) : Ev X Γ ρ (.BoolOp op [a] pos) d := we_one h
theorem ev_and {k1 k2 : Bool} (ha : Ev X Γ ρ a (bD k1)) (hb : k1 = true → Ev X Γ ρ (.BoolOp .And (b :: rest) pos) (bD k2)) : Ev X Γ ρ (.BoolOp .And (a :: b :: rest) pos) (bD (k1 && k2)) :=
  we_and (ha.we ⟨k1, rfl, fun z => by rw [z, Bool.true_and]; exact hb z, fun z => by rw [z, Bool.false_and]⟩)
theorem ev_or {k1 k2 : Bool} (ha : Ev X Γ ρ a (bD k1)) (hb : k1 = false → Ev X Γ ρ (.BoolOp .Or (b :: rest) pos) (bD k2)) : Ev X Γ ρ (.BoolOp .Or (a :: b :: rest) pos) (bD (k1 || k2)) :=
  we_or (ha.we ⟨k1, rfl, fun z => by rw [z, Bool.true_or], fun z => by rw [z, Bool.false_or]; exact hb z⟩)
theorem ev_not {k : Bool} (ha : Ev X Γ ρ a (bD k)) : Ev X Γ ρ (.UnaryOp .Not a pos) (bD (!k)) := we_not (ha.we ⟨k, rfl, rfl⟩)
theorem ev_if {k : Bool} (hc : EvT X Γ ρ c k) (ha : k = true → Ev X Γ ρ a d1) (hb : k = false → Ev X Γ ρ b d2) : Ev X Γ ρ (.IfExp c a b pos) (if k then d1 else d2) :=
  we_ifExp (hc.wt ⟨fun z => (ha z).we (by rw [z]; rfl), fun z => (hb z).we (by rw [z]; rfl)⟩)
/-- both ways of one kind -/
theorem ev_ifW {k : Bool} {u w : List Nat} (hc : EvT X Γ ρ c k) (ha : k = true → Ev X Γ ρ a (wD u)) (hb : k = false → Ev X Γ ρ b (wD w)) : Ev X Γ ρ (.IfExp c a b pos) (wD (if k then u else w)) :=
  (ev_if hc ha hb).to (by cases k <;> rfl)
theorem ev_ifI {k : Bool} {u w : Int} (hc : EvT X Γ ρ c k) (ha : k = true → Ev X Γ ρ a (iD u)) (hb : k = false → Ev X Γ ρ b (iD w)) : Ev X Γ ρ (.IfExp c a b pos) (iD (if k then u else w)) :=
  (ev_if hc ha hb).to (by cases k <;> rfl)
theorem ev_ifL {k : Bool} {u w : List D} (hc : EvT X Γ ρ c k) (ha : k = true → Ev X Γ ρ a (.lst u)) (hb : k = false → Ev X Γ ρ b (.lst w)) : Ev X Γ ρ (.IfExp c a b pos) (.lst (if k then u else w)) :=
  (ev_if hc ha hb).to (by cases k <;> rfl)
/-! tests -/
theorem et_val {k : Bool} (h : Ev X Γ ρ e (bD k)) (he : ∀ whole, isTrue e X.env whole = (do let v ← whole; standAt e.pos; holding [v] (truthy v)) := by intro _; rfl) : EvT X Γ ρ e k := wt_val (h.we ⟨k, rfl, rfl⟩) he
theorem et_not {k : Bool} (h : EvT X Γ ρ a k) : EvT X Γ ρ (.UnaryOp .Not a pos) (!k) := wt_not (h.wt rfl)
theorem et_w {k : Bool} (h : EvW X Γ ρ e k) : EvT X Γ ρ e k := wt_w h
theorem ew_and1 {k : Bool} (h : EvT X Γ ρ a k) : EvW X Γ ρ (.BoolOp .And [a] pos) k := ww_and1 h
theorem ew_or1 {k : Bool} (h : EvT X Γ ρ a k) : EvW X Γ ρ (.BoolOp .Or [a] pos) k := ww_or1 h
theorem ww_imp {R R' : Bool → Prop} (h : WW X Γ ρ e R') (m : ∀ d, R' d → R d) : WW X Γ ρ e R := pw_mono h fun σ H Q ⟨O, ok, k⟩ => ⟨O, ok, fun v H' o1 k1 h1 => k v H' o1 k1 (m v h1)⟩
theorem ew_and {k1 k2 : Bool} (ha : EvT X Γ ρ a k1) (hb : k1 = true → EvW X Γ ρ (.BoolOp .And (b :: rest) pos) k2) : EvW X Γ ρ (.BoolOp .And (a :: b :: rest) pos) (k1 && k2) :=
  ww_and (ha.wt ⟨fun z => ww_imp (hb z) fun _ e => by rw [e, z, Bool.true_and], fun z => by rw [z, Bool.false_and]⟩)
theorem ew_or {k1 k2 : Bool} (ha : EvT X Γ ρ a k1) (hb : k1 = false → EvW X Γ ρ (.BoolOp .Or (b :: rest) pos) k2) : EvW X Γ ρ (.BoolOp .Or (a :: b :: rest) pos) (k1 || k2) :=
  ww_or (ha.wt ⟨fun z => by rw [z, Bool.true_or], fun z => ww_imp (hb z) fun _ e => by rw [e, z, Bool.false_or]⟩)
/-! comparisons: as a value, as a test -/
theorem ev_cmp {op : CmpOp} {r : R2} {k : Bool} (ho : OpR X (compareOp op) r) (ha : Ev X Γ ρ a d1) (hb : Ev X Γ ρ b d2) (h : ∀ R : D → Prop, R (bD k) → OpD Γ.K r d1 d2 R) (hm : behindInMarks op b = false := by first | rfl | exact nomark _) : Ev X Γ ρ (.Compare a [op] [b] pos) (bD k) :=
  we_cmp ho (ha.we (hb.we (h _ rfl))) hm
theorem et_cmp {op : CmpOp} {r : R2} {k : Bool} (ho : OpR X (compareOp op) r) (ha : Ev X Γ ρ a d1) (hb : Ev X Γ ρ b d2) (h : ∀ R : D → Prop, R (bD k) → OpD Γ.K r d1 d2 R) (hm : behindInMarks op b = false := by first | rfl | exact nomark _) : EvT X Γ ρ (.Compare a [op] [b] pos) k :=
  wt_cmp ho (ha.we (hb.we (h _ ⟨k, rfl, rfl⟩))) hm
/-- how two pieces of data compare -/
def CpD (K : PySem.W.Frag) (X : Cx) (op : CmpOp) (d1 d2 : D) (k : Bool) : Prop := ∃ r, OpR X (compareOp op) r ∧ ∀ R : D → Prop, R (bD k) → OpD K r d1 d2 R
theorem ev_c {op : CmpOp} {k : Bool} (ha : Ev X Γ ρ a d1) (hb : Ev X Γ ρ b d2) (h : CpD Γ.K X op d1 d2 k) (hm : behindInMarks op b = false := by first | rfl | exact nomark _) : Ev X Γ ρ (.Compare a [op] [b] pos) (bD k) := by
  obtain ⟨r, ho, h⟩ := h
  exact ev_cmp ho ha hb h hm
theorem et_c {op : CmpOp} {k : Bool} (ha : Ev X Γ ρ a d1) (hb : Ev X Γ ρ b d2) (h : CpD Γ.K X op d1 d2 k) (hm : behindInMarks op b = false := by first | rfl | exact nomark _) : EvT X Γ ρ (.Compare a [op] [b] pos) k := by
  obtain ⟨r, ho, h⟩ := h
  exact et_cmp ho ha hb h hm
theorem cp_lt : CpD K X .Lt (iD i) (iD j) (decide (i < j)) := ⟨_, op_lt, fun R h => od_I0 h⟩
theorem cp_le : CpD K X .LtE (iD i) (iD j) (decide (i ≤ j)) := ⟨_, op_le, fun R h => od_I0 h⟩
theorem cp_gt : CpD K X .Gt (iD i) (iD j) (decide (j < i)) := ⟨_, op_gt, fun R h => od_I0 h⟩
theorem cp_ge : CpD K X .GtE (iD i) (iD j) (decide (j ≤ i)) := ⟨_, op_ge, fun R h => od_I0 h⟩
theorem cp_eqI : CpD K X .Eq (iD i) (iD j) (decide (i = j)) := ⟨_, op_eq, fun R h => od_eqI h⟩
theorem cp_neI : CpD K X .NotEq (iD i) (iD j) (!decide (i = j)) := ⟨_, op_ne, fun R h => od_neI h⟩
theorem cp_eqW {u w : List Nat} : CpD K X .Eq (wD u) (wD w) (decide (u = w)) := ⟨_, op_eq, fun R h => od_eqW h⟩
theorem cp_neW {u w : List Nat} : CpD K X .NotEq (wD u) (wD w) (!decide (u = w)) := ⟨_, op_ne, fun R h => od_neW h⟩
theorem cp_eqB {u w : Bool} : CpD K X .Eq (bD u) (bD w) (u == w) := ⟨_, op_eq, fun R h => od_eqB h⟩
theorem cp_neB {u w : Bool} : CpD K X .NotEq (bD u) (bD w) (u != w) := ⟨_, op_ne, fun R h => od_neB h⟩
theorem cp_inW {w : List Nat} {c : Nat} : CpD K X .In (wD [c]) (wD w) (decide (c ∈ w)) := ⟨_, op_in_sign, fun R h => od_inW h⟩
theorem cp_ninW {w : List Nat} {c : Nat} : CpD K X .NotIn (wD [c]) (wD w) (!decide (c ∈ w)) := ⟨_, op_notIn_sign, fun R h => od_ninW h⟩
theorem cp_isN {v : V} : CpD K X .Is (.v v) nD (decide (v = .non)) := ⟨_, op_isN, fun R h => od_isN h⟩
theorem cp_notN {v : V} : CpD K X .IsNot (.v v) nD (!decide (v = .non)) := ⟨_, op_notN, fun R h => od_notN h⟩
theorem cp_eqD {q1 q2 : PyData} (hu : X.A.units + 64 < cLine) (h1 : toPy d1 = some q1) (h2 : toPy d2 = some q2) (s1 : SeqAt.shaped q1 = true) (s2 : SeqAt.shaped q2 = true) (hK : K = X.K := by rfl) : CpD K X .Eq d1 d2 (PyData.eqv q1 q2) := ⟨_, op_eqD hu, fun R h => hK ▸ od_eqD h1 h2 s1 s2 h⟩
theorem cp_neD {q1 q2 : PyData} (hu : X.A.units + 64 < cLine) (h1 : toPy d1 = some q1) (h2 : toPy d2 = some q2) (s1 : SeqAt.shaped q1 = true) (s2 : SeqAt.shaped q2 = true) (hK : K = X.K := by rfl) : CpD K X .NotEq d1 d2 (!PyData.eqv q1 q2) := ⟨_, op_neD hu, fun R h => hK ▸ od_neD h1 h2 s1 s2 h⟩
/-- two comparisons in a chain -/
theorem ev_ch {op op' : CmpOp} {k1 k2 : Bool} (ha : Ev X Γ ρ a d1) (hb : Ev X Γ ρ b d2) (h : CpD Γ.K X op d1 d2 k1) (hc : k1 = true → Ev X Γ ρ c d3) (h' : k1 = true → CpD Γ.K X op' d2 d3 k2)
    (hm : ∀ (r r' : R2) {ta tb tc : TE}, OpR X (compareOp op) r → OpR X (compareOp op') r' → PE X a ta → PE X b tb → PE X c tc → PE X (.Compare a [op, op'] [b, c] pos) (tChain r r' ta tb tc) := by intro r r' ta tb tc h1 h2 h3 h4 h5; exact pe_chain h1 h2 h3 h4 h5) :
    Ev X Γ ρ (.Compare a [op, op'] [b, c] pos) (bD (k1 && k2)) := by
  obtain ⟨r, ho, h⟩ := h
  by_cases z : k1 = true
  · obtain ⟨r', ho', h''⟩ := h' z
    exact we_chain ho ho' (ha.we (hb.we (h _ ⟨k1, rfl, fun w => (hc w).we (h'' _ (by rw [w, Bool.true_and])), fun w => by rw [w] at z; cases z⟩))) fun h1 h2 h3 => hm r r' ho ho' h1 h2 h3
  · have z0 : k1 = false := by cases k1 with | true => exact absurd rfl z | false => rfl
    have ho2 : OpR X (compareOp op') (fun _ _ _ _ => False) := fun _ _ _ _ _ _ _ _ _ _ _ _ q => q.elim
    exact we_chain ho ho2 (ha.we (hb.we (h _ ⟨k1, rfl, fun w => absurd w z, fun w => by rw [w, Bool.false_and]⟩))) fun h1 h2 h3 => hm r _ ho ho2 h1 h2 h3
theorem et_ch {op op' : CmpOp} {k1 k2 : Bool} (ha : Ev X Γ ρ a d1) (hb : Ev X Γ ρ b d2) (h : CpD Γ.K X op d1 d2 k1) (hc : k1 = true → Ev X Γ ρ c d3) (h' : k1 = true → CpD Γ.K X op' d2 d3 k2)
    (hm : ∀ (r r' : R2) {ta tb tc : TE}, OpR X (compareOp op) r → OpR X (compareOp op') r' → PE X a ta → PE X b tb → PE X c tc → PT X (.Compare a [op, op'] [b, c] pos) (tTest (tChain r r' ta tb tc)) := by intro r r' ta tb tc h1 h2 h3 h4 h5; exact pt_chain h1 h2 h3 h4 h5) :
    EvT X Γ ρ (.Compare a [op, op'] [b, c] pos) (k1 && k2) := by
  obtain ⟨r, ho, h⟩ := h
  by_cases z : k1 = true
  · obtain ⟨r', ho', h''⟩ := h' z
    exact wt_chain ho ho' (ha.we (hb.we (h _ ⟨k1, rfl, fun w => (hc w).we (h'' _ ⟨k2, rfl, by rw [w, Bool.true_and]⟩), fun w => by rw [w] at z; cases z⟩))) fun h1 h2 h3 => hm r r' ho ho' h1 h2 h3
  · have z0 : k1 = false := by cases k1 with | true => exact absurd rfl z | false => rfl
    have ho2 : OpR X (compareOp op') (fun _ _ _ _ => False) := fun _ _ _ _ _ _ _ _ _ _ _ _ q => q.elim
    exact wt_chain ho ho2 (ha.we (hb.we (h _ ⟨k1, rfl, fun w => absurd w z, fun w => by rw [w, Bool.false_and]⟩))) fun h1 h2 h3 => hm r _ ho ho2 h1 h2 h3
/-! subscripts -/
theorem ev_ixL {l : List D} (ha : Ev X Γ ρ a (.lst l)) (hb : Ev X Γ ρ b (iD i)) (hi : L2.atI l i = some d) (hK : Γ.K = X.K := by rfl) (hs : PlainIx b := by intro _ _; rfl) : Ev X Γ ρ (.Subscript a b pos) d := we_ix ix_seq (ha.we (hb.we (hK ▸ od_ixL hi rfl))) hs
theorem ev_ixT {l : List D} (ha : Ev X Γ ρ a (.tup l)) (hb : Ev X Γ ρ b (iD i)) (hi : L2.atI l i = some d) (hK : Γ.K = X.K := by rfl) (hs : PlainIx b := by intro _ _; rfl) : Ev X Γ ρ (.Subscript a b pos) d := we_ix ix_seq (ha.we (hb.we (hK ▸ od_ixT hi rfl))) hs
theorem ev_ixW {w : List Nat} {c : Nat} (ha : Ev X Γ ρ a (wD w)) (hb : Ev X Γ ρ b (iD i)) (hz : w.length ≤ sizeLine) (hi : L2.atI w i = some c) (hK : Γ.K = X.K := by rfl) (hs : PlainIx b := by intro _ _; rfl) : Ev X Γ ρ (.Subscript a b pos) (wD [c]) := we_ix ix_seq (ha.we (hb.we (hK ▸ od_ixW hz hi rfl))) hs
theorem eo_none : EvO X Γ ρ none none := wo_none rfl
theorem eo_some (h : Ev X Γ ρ e (iD i)) : EvO X Γ ρ (some e) (some i) := wo_some (h.we ⟨i, rfl, rfl⟩)
theorem ev_slW {w : List Nat} {lo hi : Option Expr} {l u : Option Int} {p2 : Pos} (ha : Ev X Γ ρ a (wD w)) (hl : EvO X Γ ρ lo l) (hu : EvO X Γ ρ hi u) (hz : w.length ≤ sizeLine) (hK : Γ.K = X.K := by rfl) : Ev X Γ ρ (.Subscript a (.Slice lo hi none p2) pos) (wD (cutL w l u)) :=
  we_slice sl_A (ha.we (hl.wo (hu.wo (hK ▸ sd_W hz rfl))))
theorem ev_slL {w : List D} {lo hi : Option Expr} {l u : Option Int} {p2 : Pos} (ha : Ev X Γ ρ a (.lst w)) (hl : EvO X Γ ρ lo l) (hu : EvO X Γ ρ hi u) (hK : Γ.K = X.K := by rfl) : Ev X Γ ρ (.Subscript a (.Slice lo hi none p2) pos) (.lst (cutL w l u)) :=
  we_slice sl_A (ha.we (hl.wo (hu.wo (hK ▸ sd_L rfl))))
/-! built-ins -/
theorem ev_B {id : String} {r : List V → Hp → VK → Prop} (hc : CallR X (.builtin id) r) (hm : X.mg x = none) (h : EvA X Γ ρ (e :: es) ds) (hd : ClD Γ.K r ds fun z => z = d) (hv : bootBuiltins x = some (.builtin id) := by decide +kernel)
    (hg : Gl X x := by rfl) (hn : x ≠ "__name__" := by decide) (hdb : (x == ("__debug__" : Str)) = false := by decide) (hst : starEach (e :: es) X.env = (false, eval e X.env) :: starEach es X.env := by rfl) (hpl : (backTo pos (starEach es X.env)).any (·.1) = false := by rfl) :
    Ev X Γ ρ (.Call (.Name x p) (e :: es) [] pos) d := we_callB hc hm hv (h.wa hd) hg hn hdb hst hpl
theorem ev_Ty {T : String} {r : List V → Hp → VK → Prop} (hc : CallR X (.type T) r) (hm : X.mg x = none) (h : EvA X Γ ρ (e :: es) ds) (hd : ClD Γ.K r ds fun z => z = d) (hv : bootBuiltins x = some (.type T) := by decide +kernel)
    (hg : Gl X x := by rfl) (hn : x ≠ "__name__" := by decide) (hdb : (x == ("__debug__" : Str)) = false := by decide) (hst : starEach (e :: es) X.env = (false, eval e X.env) :: starEach es X.env := by rfl) (hpl : (backTo pos (starEach es X.env)).any (·.1) = false := by rfl) :
    Ev X Γ ρ (.Call (.Name x p) (e :: es) [] pos) d := we_callTy hc hm hv (h.wa hd) hg hn hdb hst hpl
theorem evn_B {id : String} {r : List V → Hp → VK → Prop} (hc : CallR X (.builtin id) r) (hm : X.mg x = none) (h : EvA X Γ ρ (e :: es) ds) (hd : ClN Γ.K r ds fun z => z = d) (hv : bootBuiltins x = some (.builtin id) := by decide +kernel)
    (hg : Gl X x := by rfl) (hn : x ≠ "__name__" := by decide) (hdb : (x == ("__debug__" : Str)) = false := by decide) (hst : starEach (e :: es) X.env = (false, eval e X.env) :: starEach es X.env := by rfl) (hpl : (backTo pos (starEach es X.env)).any (·.1) = false := by rfl) :
    EvN X Γ ρ (.Call (.Name x p) (e :: es) [] pos) d := wn_callB hc hm hv (h.wa hd) hg hn hdb hst hpl
theorem evn_Ty {T : String} {r : List V → Hp → VK → Prop} (hc : CallR X (.type T) r) (hm : X.mg x = none) (h : EvA X Γ ρ (e :: es) ds) (hd : ClN Γ.K r ds fun z => z = d) (hv : bootBuiltins x = some (.type T) := by decide +kernel)
    (hg : Gl X x := by rfl) (hn : x ≠ "__name__" := by decide) (hdb : (x == ("__debug__" : Str)) = false := by decide) (hst : starEach (e :: es) X.env = (false, eval e X.env) :: starEach es X.env := by rfl) (hpl : (backTo pos (starEach es X.env)).any (·.1) = false := by rfl) :
    EvN X Γ ρ (.Call (.Name x p) (e :: es) [] pos) d := wn_callTy hc hm hv (h.wa hd) hg hn hdb hst hpl
/-- the plain ones: what they are of ints, bools -/
theorem cd_int1 (h : R (iD i)) : ClD K (fun xs H Q => (∃ i, xs = [.int i] ∧ Q (.int i) H) ∨ ∃ k, xs = [.bl k] ∧ Q (.int (if k then 1 else 0)) H) [iD i] R := cd_plain (vs := [.int i]) (fun H Q q => .inl ⟨i, rfl, q⟩) h
theorem cd_intB {k : Bool} (h : R (iD (if k then 1 else 0))) : ClD K (fun xs H Q => (∃ i, xs = [.int i] ∧ Q (.int i) H) ∨ ∃ k, xs = [.bl k] ∧ Q (.int (if k then 1 else 0)) H) [bD k] R := cd_plain (vs := [.bl k]) (fun H Q q => .inr ⟨k, rfl, q⟩) h
theorem cd_abs (h : R (iD (if i < 0 then -i else i))) : ClD K (fun xs H Q => ∃ i, xs = [.int i] ∧ Q (.int (if i < 0 then -i else i)) H) [iD i] R := cd_plain (vs := [.int i]) (fun H Q q => ⟨i, rfl, q⟩) h
theorem cd_max2 (h : R (iD (max i j))) : ClD K (fun xs H Q => ∃ i j, xs = [.int i, .int j] ∧ Q (.int (if j > i then j else i)) H) [iD i, iD j] R := cd_plain (vs := [.int i, .int j]) (fun H Q q => ⟨i, j, rfl, by
  have : (if j > i then j else i) = max i j := by split <;> omega
  rw [this]; exact q⟩) h
theorem cd_min2 (h : R (iD (min i j))) : ClD K (fun xs H Q => ∃ i j, xs = [.int i, .int j] ∧ Q (.int (if j < i then j else i)) H) [iD i, iD j] R := cd_plain (vs := [.int i, .int j]) (fun H Q q => ⟨i, j, rfl, by
  have : (if j < i then j else i) = min i j := by split <;> omega
  rw [this]; exact q⟩) h
theorem cd_sumF {α : Type} {xs : List α} {f : α → Int} (h : R (iD (xs.map f).sum)) : ClD K (rSum K) [.lst (xs.map fun a => iD (f a))] R := by
  have e : (xs.map fun a => iD (f a)) = (xs.map f).map fun n => .v (.int n) := by rw [List.map_map]; rfl
  rw [e]; exact cd_sum h
theorem cd_allF {α : Type} {xs : List α} {f : α → Bool} (h : R (bD (xs.all f))) : ClD K (rAll K) [.lst (xs.map fun a => bD (f a))] R := by
  have e : (xs.map fun a => bD (f a)) = (xs.map f).map fun n => .v (.bl n) := by rw [List.map_map]; rfl
  rw [e]; exact cd_all (by rw [List.all_map]; exact h)
theorem cd_anyF {α : Type} {xs : List α} {f : α → Bool} (h : R (bD (xs.any f))) : ClD K (rAny K) [.lst (xs.map fun a => bD (f a))] R := by
  have e : (xs.map fun a => bD (f a)) = (xs.map f).map fun n => .v (.bl n) := by rw [List.map_map]; rfl
  rw [e]; exact cd_any (by rw [List.any_map]; exact h)
theorem ev_len (hm : X.mg "len" = none) (h : Ev X Γ ρ e (.lst ds)) (hK : Γ.K = X.K := by rfl) (hg : Gl X "len" := by rfl) (hst : starEach [e] X.env = (false, eval e X.env) :: starEach [] X.env := by rfl) : Ev X Γ ρ (.Call (.Name "len" p) [e] [] pos) (iD ds.length) :=
  ev_B call_lenA hm (ea_cons h ea_nil hst) (hK ▸ cd_lenL rfl) (by decide +kernel) hg (by decide) (by decide) hst
theorem ev_lenT (hm : X.mg "len" = none) (h : Ev X Γ ρ e (.tup ds)) (hK : Γ.K = X.K := by rfl) (hg : Gl X "len" := by rfl) (hst : starEach [e] X.env = (false, eval e X.env) :: starEach [] X.env := by rfl) : Ev X Γ ρ (.Call (.Name "len" p) [e] [] pos) (iD ds.length) :=
  ev_B call_lenA hm (ea_cons h ea_nil hst) (hK ▸ cd_lenT rfl) (by decide +kernel) hg (by decide) (by decide) hst
theorem ev_lenW {w : List Nat} (hm : X.mg "len" = none) (h : Ev X Γ ρ e (wD w)) (hz : w.length ≤ sizeLine) (hK : Γ.K = X.K := by rfl) (hg : Gl X "len" := by rfl) (hst : starEach [e] X.env = (false, eval e X.env) :: starEach [] X.env := by rfl) : Ev X Γ ρ (.Call (.Name "len" p) [e] [] pos) (iD w.length) :=
  ev_B call_lenA hm (ea_cons h ea_nil hst) (hK ▸ cd_lenW hz rfl) (by decide +kernel) hg (by decide) (by decide) hst
/-! calls of defs -/
theorem ev_call {α : Type} {enc : α → List D} {pre : α → Prop} {out : α → D} {ps : List Str} {k j : Nat} (F : Fn X.prog X.w X.K X.mg X.base k x ps (spF X.K enc pre fun a d => d = out a)) (hr : Room j X.A) (h : EvA X Γ ρ (e :: es) ds) (q : ∃ a, ds = enc a ∧ pre a ∧ out a = d)
    (hk : k ≤ j := by decide) (hK : Γ.K = X.K := by rfl) (hg : Gl X x := by rfl) (hdb : (x == ("__debug__" : Str)) = false := by decide) (he : starEach (e :: es) X.env = (false, eval e X.env) :: starEach es X.env := by rfl) (hpl : (backTo pos (starEach es X.env)).any (·.1) = false := by rfl) :
    Ev X Γ ρ (.Call (.Name x p) (e :: es) [] pos) d := by
  obtain ⟨a, e1, hp, e2⟩ := q
  exact we_call F hr (h.wa ⟨a, e1, hp, fun d' z => z.trans e2⟩) hk hK hg hdb he hpl
theorem evn_call {α : Type} {enc : α → List D} {pre : α → Prop} {out : α → D} {ps : List Str} {k j : Nat} (F : Fn X.prog X.w X.K X.mg X.base k x ps (spN X.K enc pre fun a d => d = out a)) (hr : Room j X.A) (h : EvA X Γ ρ (e :: es) ds) (q : ∃ a, ds = enc a ∧ pre a ∧ out a = d)
    (hk : k ≤ j := by decide) (hK : Γ.K = X.K := by rfl) (hg : Gl X x := by rfl) (hdb : (x == ("__debug__" : Str)) = false := by decide) (he : starEach (e :: es) X.env = (false, eval e X.env) :: starEach es X.env := by rfl) (hpl : (backTo pos (starEach es X.env)).any (·.1) = false := by rfl) :
    EvN X Γ ρ (.Call (.Name x p) (e :: es) [] pos) d := by
  obtain ⟨a, e1, hp, e2⟩ := q
  exact wn_call F hr (h.wa ⟨a, e1, hp, fun d' z => z.trans e2⟩) hk hK hg hdb he hpl
/-! what is walked -/
def EvI (X : Cx) (Γ : Gm) (ρ : List Sl) (tg e : Expr) (ds : List D) : Prop := WI X Γ ρ tg e fun r => r = ds
theorem wi_imp {R' : List D → Prop} (h : WI X Γ ρ tg e R') (m : ∀ d, R' d → Rs d) : WI X Γ ρ tg e Rs := pi_mono h fun σ H RR ⟨O, ok, k⟩ => ⟨O, ok, fun J H' d o1 k1 r1 h1 => k J H' d o1 k1 r1 (m d h1)⟩
theorem EvI.wi (h : EvI X Γ ρ tg e ds) (q : Rs ds) : WI X Γ ρ tg e Rs := wi_imp h fun _ z => z ▸ q
theorem ei_list (h : Ev X Γ ρ e (.lst ds)) (hK : Γ.K = X.K := by rfl) : EvI X Γ ρ tg e ds := wi_list (h.we ⟨ds, rfl, rfl⟩) hK
theorem ei_tup (h : Ev X Γ ρ e (.tup ds)) (hK : Γ.K = X.K := by rfl) : EvI X Γ ρ tg e ds := wi_tup (h.we ⟨ds, rfl, rfl⟩) hK
theorem ei_str {w : List Nat} (h : Ev X Γ ρ e (wD w)) : EvI X Γ ρ tg e (w.map fun c => wD [c]) := wi_strW (h.we ⟨w, rfl, rfl⟩)
/-- the ints of a range from 0, of a range -/
theorem ei_range1 {n : Nat} (hm : X.mg "range" = none) (h : Ev X Γ ρ a (iD i)) (hn : i.toNat = n) (hb : i < 2 ^ 62 ∧ -(2 ^ 62) ≤ i) (hg : Gl X "range" := by rfl) (hs : starEach [a] X.env = [(false, eval a X.env)] := by rfl) :
    EvI X Γ ρ tg (.Call (.Name "range" p) [a] [] pos) ((List.range n).map fun (k : Nat) => iD k) :=
  wi_range1 hm (wa_cons (h.we (wa_nil ⟨i, rfl, hb.2, hb.1, by rw [hn]; unfold rngD; simp only [Int.zero_add]⟩)) hs) hg hs
theorem ei_range2 {n : Nat} (hm : X.mg "range" = none) (h : Ev X Γ ρ a (iD i)) (h2 : Ev X Γ ρ b (iD j)) (hn : (j - i).toNat = n) (hb : -(2 ^ 62) ≤ i ∧ i < 2 ^ 62 ∧ -(2 ^ 62) ≤ j ∧ j < 2 ^ 62) (hg : Gl X "range" := by rfl)
    (hs : starEach [a, b] X.env = [(false, eval a X.env), (false, eval b X.env)] := by rfl) (hs2 : starEach [b] X.env = [(false, eval b X.env)] := by rfl) :
    EvI X Γ ρ tg (.Call (.Name "range" p) [a, b] [] pos) ((List.range n).map fun (k : Nat) => iD (i + k)) :=
  wi_range2 hm (wa_cons (h.we (wa_cons (h2.we (wa_nil ⟨i, j, rfl, hb, by rw [hn]; rfl⟩)) hs2)) (by rw [hs, hs2])) hg hs hs2
/-! comprehensions -/
variable {elt iter : Expr} {ifs : List Expr} {scope : Scope} {α : Type} {g : α → D} {xs : List α} {f : α → D} {q : α → Bool} {ρ2 : α → List Sl}
/-- the target of a comprehension takes the item -/
def EvG (X : Cx) (Γ : Gm) (ρ : List Sl) (tg : Expr) (d : D) (W : Nat → Prop) (ρ' : List Sl) : Prop := WG X Γ ρ tg d W fun r => r = ρ'
theorem wg_imp {W : Nat → Prop} {R R' : List Sl → Prop} (h : WG X Γ ρ tg d W R') (m : ∀ d, R' d → R d) : WG X Γ ρ tg d W R := pg_mono h fun v σ H Q ⟨O, ok, r, k⟩ => ⟨O, ok, r, fun ρ' σ' H' o s k1 f1 h1 => k ρ' σ' H' o s k1 f1 (m ρ' h1)⟩
theorem EvG.wg {W : Nat → Prop} {R : List Sl → Prop} {ρ' : List Sl} (h : EvG X Γ ρ tg d W ρ') (q : R ρ') : WG X Γ ρ tg d W R := wg_imp h fun _ z => z ▸ q
theorem eg_name (i : Nat) {W : Nat → Prop} (hN : X.N.Nodup) (hW : W i := by first | exact trivial | decide) (hi : X.N[i]? = some x := by rfl) (hx : Loc X.env.scope x := by first | exact Or.inl rfl | exact Or.inr rfl)
    (hf : X.fn x = true ∨ X.env.scope.names.lookup x = some .local := by first | exact .inl rfl | exact .inr rfl) : EvG X Γ ρ (.Name x pos) d W (ρ.set i (.dat d)) := wg_name i rfl hN hW hi hx hf
def EgN (X : Cx) (Γ : Gm) (ρ : List Sl) (es : List Expr) (ds : List D) (W : Nat → Prop) (ρ' : List Sl) : Prop := WGs X Γ ρ es ds W fun r => r = ρ'
theorem wgs_imp {W : Nat → Prop} {R R' : List Sl → Prop} (h : WGs X Γ ρ es ds W R') (m : ∀ d, R' d → R d) : WGs X Γ ρ es ds W R := pgs_mono h fun v σ H Q ⟨O, ok, r, k⟩ => ⟨O, ok, r, fun ρ' σ' H' o s k1 f1 h1 => k ρ' σ' H' o s k1 f1 (m ρ' h1)⟩
theorem eg_nil {W : Nat → Prop} : EgN X Γ ρ [] [] W ρ := wgs_nil rfl
theorem eg_cons {W : Nat → Prop} {ρ' ρ3 : List Sl} (h : EvG X Γ ρ e d W ρ') (h2 : EgN X Γ ρ' es ds W ρ3) (hs : List.map (fun x => x.snd) (assignEach (e :: es) X.env) = assign e X.env :: List.map (fun x => x.snd) (assignEach es X.env) := by rfl) : EgN X Γ ρ (e :: es) (d :: ds) W ρ3 := wgs_cons (h.wg h2) hs
theorem eg_tup {k : Nat} {W : Nat → Prop} {ρ' : List Sl} (h : EgN X Γ ρ es ds W ρ') (hl : ds.length = es.length := by rfl) (hK : Γ.K = X.K := by rfl)
    (hp : ∀ {t : TGs}, PGs X es t → PG X (.Tuple es k pos) (gTup X.K es.length t) := by intro t h; exact pg_tup (by rfl) h) : EvG X Γ ρ (.Tuple es k pos) (.tup ds) W ρ' := wg_tup h hl hK hp
/-- [elt for target in iter] -/
theorem evn_lcM (own : List (Str × Nat)) (hi : EvI X Γ ρ tg iter (xs.map g)) (hN : X.N.Nodup) (hsz : xs.length ≤ sizeLine)
    (ht : ∀ a ∈ xs, ∀ (s : Shared) (H : Hp) (C : Addr) (cl : List (Str × Addr)) (fp : List Addr), EvG (X.blk s H scope (compEnvC scope cl C X.env) fp) Γ (wipeS ρ (own.map (·.2))) tg (g a) (fun i => i ∈ own.map (·.2)) (ρ2 a))
    (he : ∀ a ∈ xs, ∀ (s : Shared) (H : Hp) (C : Addr) (cl : List (Str × Addr)) (fp : List Addr), Ev (X.blk s H scope (compEnvC scope cl C X.env) fp) Γ (ρ2 a) elt (f a))
    (hc : X.calm = true := by rfl) (ok : blkC X.N X.env.scope scope own = true := by kernel_rfl) (hs : ∀ x, foldedSetIterable iter X.env x = pure x := by intro _; rfl) : EvN X Γ ρ (.ListComp elt [⟨tg, iter, [], 0⟩] scope pos) (.lst (xs.map f)) :=
  wn_lc (Y := fun a o => o = some (f a)) own (hi.wi ⟨xs, rfl, hsz, fun a ha s H C cl fp => (ht a ha s H C cl fp).wg fun s H C cl fp => wts_nil ⟨fun z => (nomatch z), fun _ s H C cl fp => (he a ha s H C cl fp).we rfl⟩, fun ys b => by
    rw [Built.fmap b]
    congr 1
    rw [List.filterMap_eq_map']⟩) hN hc ok hs
/-- [elt for target in iter if test] -/
theorem evn_lcF (own : List (Str × Nat)) (hi : EvI X Γ ρ tg iter (xs.map g)) (hN : X.N.Nodup) (hsz : xs.length ≤ sizeLine)
    (ht : ∀ a ∈ xs, ∀ (s : Shared) (H : Hp) (C : Addr) (cl : List (Str × Addr)) (fp : List Addr), EvG (X.blk s H scope (compEnvC scope cl C X.env) fp) Γ (wipeS ρ (own.map (·.2))) tg (g a) (fun i => i ∈ own.map (·.2)) (ρ2 a))
    (hq : ∀ a ∈ xs, ∀ (s : Shared) (H : Hp) (C : Addr) (cl : List (Str × Addr)) (fp : List Addr), EvT (X.blk s H scope (compEnvC scope cl C X.env) fp) Γ (ρ2 a) c (q a))
    (he : ∀ a ∈ xs, q a = true → ∀ (s : Shared) (H : Hp) (C : Addr) (cl : List (Str × Addr)) (fp : List Addr), Ev (X.blk s H scope (compEnvC scope cl C X.env) fp) Γ (ρ2 a) elt (f a))
    (hc : X.calm = true := by rfl) (ok : blkC X.N X.env.scope scope own = true := by kernel_rfl) (hs : ∀ x, foldedSetIterable iter X.env x = pure x := by intro _; rfl) : EvN X Γ ρ (.ListComp elt [⟨tg, iter, [c], 0⟩] scope pos) (.lst ((xs.filter q).map f)) :=
  wn_lc (Y := fun a o => o = if q a then some (f a) else none) own (hi.wi ⟨xs, rfl, hsz, fun a ha s H C cl fp => (ht a ha s H C cl fp).wg fun s H C cl fp => wts_one ((hq a ha s H C cl fp).wt ⟨fun z => by rw [z]; rfl, fun z s H C cl fp => (he a ha z s H C cl fp).we (by rw [z]; rfl)⟩), fun ys b => by
    rw [Built.fmap b]
    congr 1
    clear hi hsz ht hq he b
    induction xs with
    | nil => rfl
    | cons x xs ih =>
      rw [List.filterMap_cons, List.filter_cons]
      cases q x with
      | true => simp [ih]
      | false => simp [ih]⟩) hN hc ok hs
/-! statements -/
theorem wb_let (i : Nat) {px : Pos} (h : Ev X Γ ρ e d) (k : WB X Γ (ρ.set i (.dat d)) sts E) (hN : X.N.Nodup) (hi : X.N[i]? = some x := by rfl) (hx : Loc X.env.scope x := by first | exact Or.inl rfl | exact Or.inr rfl)
    (hf : X.fn x = true ∨ X.env.scope.names.lookup x = some .local := by first | exact .inl rfl | exact .inr rfl) (hs : swapsWith e (some (.Name x px)) pos.line X.env = pure false := by rfl)
    (hp : ∀ {te : TE} {g : TG}, PE X e te → PG X (.Name x px) g → PS X (.Assign [.Name x px] e pos) (tAsg te g) := by intro te g h1 h2; exact ps_asg h1 h2) : WB X Γ ρ (.Assign [.Name x px] e pos :: sts) E :=
  wb_cons (ws_asg (h.we (wg_name i k hN trivial hi hx hf)) hs hp)
theorem wb_if {s1 s2 : List Stmt} {k : Bool} (h : EvT X Γ ρ c k) (h1 : k = true → WB X Γ ρ s1 (E.to fun ρ' => WB X Γ ρ' sts E)) (h2 : k = false → WB X Γ ρ s2 (E.to fun ρ' => WB X Γ ρ' sts E)) : WB X Γ ρ (.If c s1 s2 pos :: sts) E :=
  wb_cons (ws_if (h.wt ⟨h1, h2⟩))
theorem wb_ret (h : Ev X Γ ρ e d) (k : E.rt ρ d) : WB X Γ ρ (.Return (some e) pos :: sts) E := wb_cons (ws_ret (h.we k))
theorem wb_retW (h : EvN X Γ ρ e d) (k : ∀ a, E.ro ρ a fun d' => d' = d) : WB X Γ ρ (.Return (some e) pos :: sts) E := wb_cons (ws_retW (h.wn k))
theorem wb_expr (h : Ev X Γ ρ e d) (k : WB X Γ ρ sts E) (hs : swapsWith e none pos.line X.env = pure false := by rfl) : WB X Γ ρ (.Expr e pos :: sts) E := wb_cons (ws_expr (h.we k) hs)
/-- slots forgotten -/
def Fg : List Sl → List Sl → Prop
  | [], [] => True
  | s :: ρ, s' :: ρ' => (s' = s ∨ s' = .un) ∧ Fg ρ ρ'
  | _, _ => False
theorem Fg.refl : ∀ ρ : List Sl, Fg ρ ρ
  | [] => trivial
  | _ :: ρ => ⟨.inl rfl, Fg.refl ρ⟩
theorem fg_env {O : Own} {H : Hp} {K : PySem.W.Frag} : ∀ {ρ ρ' : List Sl} {σ : L2.St}, Fg ρ ρ' → EnvR K O H ρ σ → EnvR K O H ρ' σ
  | [], [], _, _, h => h
  | _ :: _, _ :: _, [], _, h => h.elim
  | s :: ρ, s' :: ρ', v :: σ, f, h => by
    refine ⟨?_, fg_env f.2 h.2⟩
    rcases f.1 with e | e
    · rw [e]; exact h.1
    · rw [e]; trivial
theorem fg_own : ∀ {ρ ρ' : List Sl} {i : Nat} {q : Addr} {P : D → Prop}, Fg ρ ρ' → ρ'[i]? = some (.own q P) → ρ[i]? = some (.own q P)
  | [], [], _, _, _, _, e => by simp at e
  | s :: ρ, s' :: ρ', 0, q, P, f, e => by
    simp at e
    rcases f.1 with z | z
    · rw [← z, e]; rfl
    · rw [z] at e; cases e
  | s :: ρ, s' :: ρ', i + 1, q, P, f, e => fg_own (i := i) f.2 (by simpa using e)
theorem Ok.fg {O : Own} {H : Hp} {σ : L2.St} {ρ' : List Sl} (ok : Ok Γ O ρ σ H) (f : Fg ρ ρ') : Ok Γ O ρ' σ H :=
  ⟨ok.dom, ok.sup, ok.fr, fg_env f ok.env, fun i j a b P Q n e1 e2 => ok.ap i j a b P Q n (fg_own f e1) (fg_own f e2), fun i a P e => ok.ow i a P (fg_own f e), ok.dom0, ok.wdom⟩
theorem wb_fg {ρ' : List Sl} (f : Fg ρ ρ') (h : WB X Γ ρ' sts E) : WB X Γ ρ sts E := pss_mono h fun D' σ H ⟨O, ok, k⟩ => ⟨O, ok.fg f, k⟩
theorem wb_weak {nx bk ct nx' bk' ct' : List Sl → Prop} {rt : List Sl → D → Prop} {ro : List Sl → Addr → (D → Prop) → Prop} (h : WB X Γ ρ sts ⟨nx, rt, ro, bk, ct⟩) (h1 : ∀ ρ, nx ρ → ∃ ρ', Fg ρ ρ' ∧ nx' ρ') (h2 : ∀ ρ, bk ρ → ∃ ρ', Fg ρ ρ' ∧ bk' ρ')
    (h3 : ∀ ρ, ct ρ → ∃ ρ', Fg ρ ρ' ∧ ct' ρ') : WB X Γ ρ sts ⟨nx', rt, ro, bk', ct'⟩ :=
  pss_mono h fun D' σ H ⟨O, ok, k1, k2, k3, k4, k5⟩ => ⟨O, ok, fun ρ2 σ2 H2 O2 q ok2 s => by
      obtain ⟨ρ3, f, q3⟩ := h1 ρ2 q
      exact k1 ρ3 σ2 H2 O2 q3 (ok2.fg f) s, fun ρ2 σ2 H2 O2 q ok2 s => by
      obtain ⟨ρ3, f, q3⟩ := h2 ρ2 q
      exact k2 ρ3 σ2 H2 O2 q3 (ok2.fg f) s, fun ρ2 σ2 H2 O2 q ok2 s => by
      obtain ⟨ρ3, f, q3⟩ := h3 ρ2 q
      exact k3 ρ3 σ2 H2 O2 q3 (ok2.fg f) s, k4, k5⟩
/-- for target in iter: by a state, its slots, and what holds of it -/
theorem ws_forJ {body : List Stmt} {β : Type} (enc : β → List Sl) (J : Nat → β → Prop) (s0 : β) (hi : EvI X Γ (enc s0) tg e (xs.map g)) (h0 : J 0 s0) (f0 : Fg ρ (enc s0))
    (turn : ∀ i a s, xs[i]? = some a → J i s → WG X Γ (enc s) tg (g a) (fun _ => True) fun ρ2 => WB X Γ ρ2 body { nx := fun ρ3 => ∃ s', J (i + 1) s' ∧ Fg ρ3 (enc s'), ct := fun ρ3 => ∃ s', J (i + 1) s' ∧ Fg ρ3 (enc s'), bk := E.nx, rt := E.rt, ro := E.ro })
    (fin : ∀ s, J xs.length s → E.nx (enc s)) (hp : PassesOwn (model X.prog X.w) X.A X.env X.xe := by exact PassesOwn.never) (hc : X.calm = true := by rfl)
    (hs : ∀ x, foldedSetIterable e X.env x = pure x := by intro _; rfl) : WS X Γ ρ (.For tg e body [] pos) E := by
  have key : WS X Γ (enc s0) (.For tg e body [] pos) E → WS X Γ ρ (.For tg e body [] pos) E := fun h => ps_mono h fun D' σ H ⟨O, ok, k⟩ => ⟨O, ok.fg f0, k⟩
  refine key (ws_for hp hc (hi.wi ⟨fun i ρ' => ∃ s, J i s ∧ ρ' = enc s, ⟨s0, h0, rfl⟩, fun i d ρ' hd ⟨s, js, es⟩ => ?_, fun ρ' ⟨s, js, es⟩ => ?_⟩) hs)
  · rw [List.getElem?_map] at hd
    cases q : xs[i]? with
    | none => rw [q] at hd; cases hd
    | some a =>
      rw [q] at hd
      have e : g a = d := Option.some.inj hd
      subst e
      subst es
      exact wg_imp (turn i a s q js) fun ρ2 h => wb_weak h (fun ρ3 ⟨s', j', f'⟩ => ⟨enc s', f', s', j', rfl⟩) (fun ρ3 h => ⟨ρ3, Fg.refl _, h⟩) fun ρ3 ⟨s', j', f'⟩ => ⟨enc s', f', s', j', rfl⟩
  · subst es
    rw [List.length_map] at js
    exact fin s js
end
end VL

set_option maxRecDepth 100000
set_option maxHeartbeats 4000000
namespace VL
open PySem PySem.Spec PyProof.Rows L2
/-- a def stands where its name says -/
def DefAt (K : PySem.W.Frag) (mg : Str → Option Value) (d : He.DefD) : Prop := ∃ f fd, FunD K d.name d.qual d.params d.body d.scope [] [] f fd ∧ mg d.at_.1 = some (.ref f)
section
variable {P0 : Program} {w : World} {K : PySem.W.Frag} {mg : Str → Option Value} {base : Heap} {d : He.DefD} {Nm ps : List Str} {k : Nat}
/-- how positional arguments bind -/
def Bnd (d : He.DefD) (ps : List Str) : Prop := ∀ (kV doc pm : Value) (an : Option Addr) (cdv ct : Value) (us : List Value), us.length = ps.length → bindArgs (PySem.W.fnOf d.name d.qual d.params d.body d.scope .none kV doc pm an cdv ct) ⟨us, []⟩ = pure (ps.zip us)
theorem Fn.mkF {α : Type} {enc : α → List D} {pre : α → Prop} {post : α → D → Prop} (A : DefAt K mg d) (S : FnScope Nm ps d.scope) (hb : Bnd d ps) (hl : ∀ a, (enc a).length = ps.length)
    (h : ∀ (a : α), pre a → ∀ (O0 : Own) (H0 : Hp) f cdv A0 outer s H E, Room k (A0.deeper (envOfC d.qual d.scope s.heap.objs.size f cdv)) →
      WB (bodyX P0 w K mg base Nm d.qual d.scope f cdv A0 outer s H E) ⟨K, O0, H0, fun _ => False⟩ (slots Nm (enc a)) d.body { nx := fun _ => post a (.v .non), rt := fun _ d => post a d }) : Fn P0 w K mg base (k + 1) d.at_.1 ps (spF K enc pre post) := by
  obtain ⟨f, fd, F, hm⟩ := A
  exact ⟨f, fd, fn_F F S hl fun a hp O0 H0 => h a hp O0 H0 f, hm, F.kp, F.bindsN hb⟩
theorem Fn.mkN {α : Type} {enc : α → List D} {pre : α → Prop} {post : α → D → Prop} (A : DefAt K mg d) (S : FnScope Nm ps d.scope) (hb : Bnd d ps) (hl : ∀ a, (enc a).length = ps.length)
    (h : ∀ (a : α), pre a → ∀ (O0 : Own) (H0 : Hp) f cdv A0 outer s H E, Room k (A0.deeper (envOfC d.qual d.scope s.heap.objs.size f cdv)) →
      WB (bodyX P0 w K mg base Nm d.qual d.scope f cdv A0 outer s H E) ⟨K, O0, H0, fun _ => False⟩ (slots Nm (enc a)) d.body { nx := fun _ => False, rt := fun _ _ => False, ro := fun _ _ P => ∀ d, P d → post a d }) : Fn P0 w K mg base (k + 1) d.at_.1 ps (spN K enc pre post) := by
  obtain ⟨f, fd, F, hm⟩ := A
  exact ⟨f, fd, fn_N F S hl fun a hp O0 H0 => h a hp O0 H0 f, hm, F.kp, F.bindsN hb⟩
theorem Fn.mkP {α : Type} {Pt : D → Prop} {enc : α → List D} {pre : α → Prop} {post : α → D → Prop} (A : DefAt K mg d) (S : FnScope Nm ps d.scope) (hb : Bnd d ps) (hl : ∀ a, (enc a).length + 1 = ps.length)
    (h : ∀ (a : α), pre a → ∀ (O0 : Own) (H0 : Hp) (q : Addr) f cdv A0 outer s H E, Room k (A0.deeper (envOfC d.qual d.scope s.heap.objs.size f cdv)) →
      WB (bodyX P0 w K mg base Nm d.qual d.scope f cdv A0 outer s H E) ⟨K, O0, H0, fun x => x = q⟩ (.own q Pt :: ((enc a).map .dat ++ List.replicate (Nm.length - ((enc a).length + 1)) .un)) d.body
        { nx := fun ρ => Still q Pt ρ ∧ post a (.v .non), rt := fun ρ d => Still q Pt ρ ∧ post a d }) : Fn P0 w K mg base (k + 1) d.at_.1 ps (spP K Pt enc pre post) := by
  obtain ⟨f, fd, F, hm⟩ := A
  exact ⟨f, fd, fn_P F S hl fun a hp O0 H0 q => h a hp O0 H0 q f, hm, F.kp, F.bindsN hb⟩
end
/-! kinds of data -/
def isIntB : D → Bool
  | .v (.int _) => true
  | .v (.bl _) => true
  | _ => false
def isBool : D → Bool
  | .v (.bl _) => true
  | _ => false
def isInt : D → Bool
  | .v (.int _) => true
  | _ => false
def isStr : D → Bool
  | .v (.str _) => true
  | _ => false
def isTup : D → Bool
  | .tup _ => true
  | _ => false
def isLst : D → Bool
  | .lst _ => true
  | _ => false
def kitR (s : String) (a b c t l : Bool) : Prop := kitB s "int" = some a ∧ kitB s "bool" = some b ∧ kitB s "str" = some c ∧ kitB s "tuple" = some t ∧ kitB s "list" = some l
instance (s a b c t l) : Decidable (kitR s a b c t l) := by unfold kitR; infer_instance
theorem kit_all {d : D} (h : tyD d ≠ "") : kitR (tyD d) (isIntB d) (isBool d) (isStr d) (isTup d) (isLst d) := by
  cases d with
  | v x =>
    cases x with
    | int n => exact (by decide +kernel : kitR "int" true false false false false)
    | bl b => exact (by decide +kernel : kitR "bool" true true false false false)
    | str b => exact (by decide +kernel : kitR "str" false false true false false)
    | non => exact (by decide +kernel : kitR "NoneType" false false false false false)
    | _ => exact absurd rfl h
  | tup l => exact (by decide +kernel : kitR "tuple" false false false true false)
  | lst l => exact (by decide +kernel : kitR "list" false false false false true)
  | dK ks l => exact (by decide +kernel : kitR "dict" false false false false false)
  | _ => exact absurd rfl h
section
variable {X : Cx} {Γ : Gm} {ρ : List Sl} {e : Expr} {pos p p2 : Pos} {d : D}
theorem ev_isi {x : Str} {n : String} {k : Bool} (hm : X.mg "isinstance" = none) (hn : X.mg x = none) (h : Ev X Γ ρ e d) (hk : kitB (tyD d) n = some k) (hd : tyD d ≠ "") (hv : bootBuiltins x = some (.type n) := by decide +kernel) (hK : Γ.K = X.K := by rfl) (hg : Gl X "isinstance" := by rfl) (hg2 : Gl X x := by rfl)
    (hx : x ≠ "__name__" := by decide) (hdb : (x == ("__debug__" : Str)) = false := by decide)
    (hst : starEach [e, .Name x p2] X.env = (false, eval e X.env) :: starEach [.Name x p2] X.env := by rfl) (hst2 : starEach [.Name x p2] X.env = (false, eval (.Name x p2) X.env) :: starEach [] X.env := by rfl)
    (hpl : (backTo pos (starEach [.Name x p2] X.env)).any (·.1) = false := by rfl) : Ev X Γ ρ (.Call (.Name "isinstance" p) [e, .Name x p2] [] pos) (bD k) :=
  ev_B call_isi hm (ea_cons h (ea_cons (ev_ty hn hv hg2 hx hdb) ea_nil hst2) hst) (hK ▸ cd_isi hk hd rfl) (by decide +kernel) hg (by decide) (by decide) hst hpl
end
end VL

set_option maxRecDepth 100000
set_option maxHeartbeats 4000000
namespace VL
open PySem PySem.Spec PyProof.Rows L2
section
variable {X : Cx} {Γ : Gm} {ρ : List Sl} {tg a b c e : Expr} {es rest : List Expr} {pos p : Pos} {R : D → Prop} {Rs : List D → Prop} {x : Str} {E : De} {st : Stmt} {sts : List Stmt} {K : PySem.W.Frag} {d d1 d2 d3 : D} {ds : List D} {i j : Int}

/-! ### a range object, kept and walked -/
def iRngV (te : TE) : TI := fun σ H R => te σ H fun x H1 => ∃ (a : Addr) (lo hi : Int), x = .ref a ∧ Rd H1 a (.rng lo hi) ∧ (-(2 ^ 62) ≤ lo ∧ lo < 2 ^ 62 ∧ -(2 ^ 62) ≤ hi ∧ hi < 2 ^ 62) ∧ R (Itr lo (hi - lo).toNat) H1
theorem pi_rngV {te : TE} (he : PE X e te) : PI X tg e (iRngV te) := by
  refine ⟨fun pins s σ H R I h => ?_⟩
  refine thn (he.run pins s σ H _ I h) fun v s1 ⟨x, H1, I1, r1, q1⟩ => ?_
  obtain ⟨q, lo, hi, e, ho, ⟨h1, h2, h3, h4⟩, hR⟩ := q1
  subst e
  cases r1
  obtain ⟨t, u, w, hr⟩ := ho.ok I1.hok
  refine wpAny_pyIter_range hr (small_one h1 h2 h3 h4) ?_
  refine ⟨s1.heap.objs.size, [s1.heap.objs.size], _, _, H1, rfl, I1.kept (t' := s1.toks) fun b o e => Heap.get?_push_of_some _ e, turn_range _ lo (hi - lo).toNat, ?_, fun b hb => ?_, hR⟩
  · have e1 : lo + ((0 : Nat) : Int) * 1 = lo := by simp
    have e2 : (((hi - lo).toNat : Nat) : Int) - ((0 : Nat) : Int) = Builtin.Range.rangeSize lo hi 1 := by rw [rangeSize_one]; split <;> omega
    show IsRangeIter _ _ (lo + ((0 : Nat) : Int) * 1) ((((hi - lo).toNat : Nat) : Int) - ((0 : Nat) : Int)) 1
    rw [e1, e2]
    exact Heap.get?_push_size _ rfl
  · have e : b = s1.heap.objs.size := by simpa using hb
    subst e
    exact I1.fpOk (Nat.le_refl _) (I1.hok.fresh (Nat.le_refl _))
theorem ei_rngV (h : Ev X Γ ρ e (.rng i j)) (hb : -(2 ^ 62) ≤ i ∧ i < 2 ^ 62 ∧ -(2 ^ 62) ≤ j ∧ j < 2 ^ 62) : EvI X Γ ρ tg e ((List.range (j - i).toNat).map fun (k : Nat) => iD (i + k)) :=
  pi_mono (pi_rngV h) fun σ H RR ⟨O, ok, k⟩ => ⟨O, ok, fun v H' d ok' k' r' q => by
    subst q
    obtain ⟨a, rfl, n, s⟩ := rep_rng.mp r'
    exact ⟨a, i, j, rfl, s, hb, k _ H' _ ok' k' walkD_rng rfl⟩⟩
theorem ev_rng2 (hm : X.mg "range" = none) (ha : Ev X Γ ρ a (iD i)) (hb : Ev X Γ ρ b (iD j)) (hK : Γ.K = X.K := by rfl) (hg : Gl X "range" := by rfl) (hst : starEach [a, b] X.env = (false, eval a X.env) :: starEach [b] X.env := by rfl) (hst2 : starEach [b] X.env = (false, eval b X.env) :: starEach [] X.env := by rfl)
    (hpl : (backTo pos (starEach [b] X.env)).any (·.1) = false := by rfl) : Ev X Γ ρ (.Call (.Name "range" p) [a, b] [] pos) (.rng i j) :=
  ev_Ty cr_range2 hm (ea_cons ha (ea_cons hb ea_nil hst2) hst) (fun O H xs Q hd r k => by
    obtain ⟨u, w, rfl, r1, r2⟩ := reps2 r
    refine ⟨i, j, by rw [rep_v.mp r1, rep_v.mp r2], fun q hq => k _ _ (.rng i j) (Ext.new hq) (rep_rng.mpr ⟨q, rfl, fun z => hd q z hq, .inl upd_same⟩) rfl⟩) (by decide +kernel) hg (by decide) (by decide) hst hpl

/-! ### text times int, text backwards -/
theorem flat_rep (z : Array Nat) : ∀ (n : Nat) (acc : Array Nat), (List.replicate n z).foldl (· ++ ·) acc = acc ++ ((List.replicate n z.toList).flatten).toArray
  | 0, acc => by simp
  | n + 1, acc => by
    rw [List.replicate_succ, List.foldl_cons, flat_rep z n, List.replicate_succ, List.flatten_cons, Array.append_assoc]
    congr 1
    apply Array.ext'
    simp
/-- a word so many times -/
def repW (w : List Nat) (n : Int) : List Nat := (List.replicate n.toNat w).flatten
theorem repW_length (w : List Nat) (n : Int) : (repW w n).length = n.toNat * w.length := by unfold repW; simp
def rMulS : R2 := fun x y H Q => ∃ (w : List Nat) (n : Int), x = .str (SX.S w) ∧ y = .int n ∧ -(2 ^ 63) ≤ n ∧ n ≤ 2 ^ 24 ∧ w.length * n.toNat ≤ sizeLine ∧ Q (.str (SX.S (repW w n))) H
theorem op_mulS : OpR X (binaryOp .Mult) rMulS := by
  intro pins s σ H x y v u Q I rx ry h
  obtain ⟨w, n, rfl, rfl, h1, h2, hl, q⟩ := h
  obtain ⟨t, rfl⟩ := rx
  obtain ⟨t', rfl⟩ := ry
  have hS : (SX.S w).length = w.length := by show w.toArray.size = _; simp
  refine PySem.P.mul_str (by
      have a1 : ¬ n < -(2 ^ 63 : Int) := by omega
      have a2 : ¬ n ≥ 2 ^ 63 := by omega
      rw [decide_eq_false a1, decide_eq_false a2]; rfl) (fun c1 _ => ?_) (fun c1 _ => ?_) ?_
  · rw [hS]
    have hp : 0 < n := by omega
    have : (w.length : Int) * n ≤ 2 ^ 24 := by
      have e : (n.toNat : Int) = n := Int.toNat_of_nonneg (by omega)
      have : ((w.length * n.toNat : Nat) : Int) ≤ (2 ^ 24 : Nat) := by exact_mod_cast hl
      rw [Int.natCast_mul, e] at this
      exact_mod_cast this
    have h3 : (w.length : Int) ≤ (2 ^ 63 - 1) / n := by
      rw [Int.le_ediv_iff_mul_le hp]
      omega
    omega
  · rw [hS]
    unfold Builtin.Str.tooLong
    simp only [decide_eq_false_iff_not]
    first
      | (have : (sizeLine : Nat) = 2 ^ 24 := rfl; omega)
      | (simp; have : (sizeLine : Nat) = 2 ^ 24 := rfl; omega)
  · by_cases c1 : n < 1
    · rw [if_pos c1]
      have : n.toNat = 0 := by omega
      rw [show repW w n = [] from by unfold repW; rw [this]; rfl] at q
      exact ⟨by decide, .str (SX.S []), H, I.tok _, ⟨_, rfl⟩, q⟩
    · rw [if_neg c1]
      by_cases c2 : (n == 1 || (SX.S w).length == 0) = true
      · rw [if_pos c2]
        have e : repW w n = w := by
          rw [hS] at c2
          simp at c2
          rcases c2 with c2 | c2
          · subst c2; unfold repW; simp
          · subst c2; unfold repW; simp
        rw [e] at q
        exact ⟨.str (SX.S w), H, I, ⟨t, rfl⟩, q⟩
      · rw [if_neg c2]
        have e : (⟨(List.replicate n.toNat (SX.S w).cps).foldl (· ++ ·) #[]⟩ : Str) = SX.S (repW w n) := by
          rw [flat_rep]
          show (⟨_⟩ : Str) = ⟨(repW w n).toArray⟩
          congr 1
          unfold repW
          show #[] ++ ((List.replicate n.toNat w.toArray.toList).flatten).toArray = _
          simp
        rw [e]
        refine ⟨?_, .str _, H, I.tok _, ⟨_, rfl⟩, q⟩
        show (repW w n).toArray.size ≤ sizeLine
        rw [List.size_toArray, repW_length, Nat.mul_comm]
        exact hl
theorem ev_mulW {w : List Nat} (ha : Ev X Γ ρ a (wD w)) (hb : Ev X Γ ρ b (iD i)) (h1 : -(2 ^ 63) ≤ i ∧ i ≤ 2 ^ 24) (hl : w.length * i.toNat ≤ sizeLine) : Ev X Γ ρ (.BinOp a .Mult b pos) (wD (repW w i)) :=
  ev_op op_mulS ha hb fun O H x y Q hd rx ry k => ⟨w, i, rep_v.mp rx, rep_v.mp ry, h1.1, h1.2, hl, k _ H _ (Ext.refl H) (rep_v.mpr rfl) rfl⟩
/-- text[::-1] -/
def tRevS (te : TE) : TE := fun σ H Q => te σ H fun x H1 => ∃ w : List Nat, x = .str (SX.S w) ∧ w.length ≤ sizeLine ∧ Q (.str (SX.S w.reverse)) H1
theorem pick_rev (w : List Nat) : ((Builtin.Str.strSliceIndices none none (-1) w.length).filterMap (w.toArray[·]?)) = w.reverse := by
  show ((sliceRange ((w.length : Int) - 1) (-1) (-1)).filterMap (w.toArray[·]?)) = w.reverse
  rw [PySem.W.krv_sliceRange, PySem.W.krv_range, List.filterMap_reverse]
  have := PySem.W.krv_all w.toArray
  rw [List.size_toArray] at this
  rw [this]
theorem pe_revS {te : TE} {k : Nat} {p1 p2 p3 : Pos} (he : PE X e te) : PE X (.Subscript e (.Slice none none (some (.UnaryOp .USub (.Constant (.int 1) k p1) p2)) p3) pos) (tRevS te) := by
  refine ⟨fun pins s σ H Q I h => ?_⟩
  refine Subscript_ (thn (he.run pins s σ H _ I h) fun v s1 ⟨x, H1, I1, r1, q1⟩ => ?_)
  obtain ⟨w, ex, hz, q⟩ := q1
  subst ex
  obtain ⟨t, rfl⟩ := r1
  have hst : PO X (some (.UnaryOp .USub (.Constant (.int 1) k p1) p2)) (tPart (tUn (rU fun i => .int (-i)) (tC (.int 1)))) := po_some (pe_un un_neg pe_int)
  refine wpAny_Slice (thn (po_none.run pins s1 σ H1 (fun o H2 => o = none ∧ H2 = H1) I1 ⟨rfl, rfl⟩) fun vl s2 ⟨l, H2, I2, pl, el, e2⟩ => ?_)
  subst el e2
  refine thn (po_none.run pins s2 σ H2 (fun o H3 => o = none ∧ H3 = H2) I2 ⟨rfl, rfl⟩) fun vu s3 ⟨u, H3, I3, pu, eu, e3⟩ => ?_
  subst eu e3
  refine thn (hst.run pins s3 σ H3 (fun o H4 => o = some (-1) ∧ H4 = H3) I3 ⟨1, rfl, -1, rfl, rfl, rfl⟩) fun vs s4 ⟨o, H4, I4, ps, eo, e4⟩ => ?_
  subst eo e4
  have I5 : Inv X pins σ H4 { s4 with heap := s4.heap.push { cls := .type "slice", data := .fields #[vl, vu, vs] } } := I4.kept (t' := s4.toks) fun b ob q => Heap.get?_push_of_some _ q
  show wpAny (model X.prog X.w) X.A (subscriptTail e (.Slice none none (some (.UnaryOp .USub (.Constant (.int 1) k p1) p2)) p3) (.str (SX.S w) t) (.ref s4.heap.objs.size)) (EP X pins σ Q) X.xe { s4 with heap := s4.heap.push { cls := .type "slice", data := .fields #[vl, vu, vs] } }
  refine tail_any (ops := [.str (SX.S w) t, .ref s4.heap.objs.size]) (typeIs_str _ _ _) (PySem.F.slot_str_getitem.lookup) ?_ (by with_unfolding_all rfl)
  obtain ⟨l1, e1, e1'⟩ := IsPart.raw pl
  obtain ⟨u1, e2, e2'⟩ := IsPart.raw pu
  obtain ⟨s1', e3, e3'⟩ := IsPart.raw ps
  have n1 : l1 = none := by cases l1 with | none => rfl | some z => simp at e1'
  have n2 : u1 = none := by cases u1 with | none => rfl | some z => simp at e2'
  obtain ⟨ts, n3⟩ : ∃ ts, s1' = some (-1, ts) := by
    cases s1' with
    | none => simp at e3'
    | some z =>
      obtain ⟨z1, z2⟩ := z
      simp at e3'
      subst e3'
      exact ⟨z2, rfl⟩
  subst n1 n2 n3
  refine wpAny_getItem_str_slice (l := none) (u := none) (st := some (-1, ts)) ⟨_, Heap.get?_push_size _ rfl, rfl, by rw [e1, e2, e3]⟩ rfl ?_
  have hS : (SX.S w).length = w.length := by show w.toArray.size = _; simp
  have hp : (slicePicked (SX.S w) none none (some (-1, ts))).filterMap ((SX.S w).cps[·]?) = w.reverse := by
    show (Builtin.Str.strSliceIndices none none (-1) (SX.S w).length).filterMap (w.toArray[·]?) = w.reverse
    rw [hS]
    exact pick_rev w
  unfold sliceMade
  rw [if_neg (by show ¬ (((-1 : Int) == 1) && _) = true; rw [show ((-1 : Int) == 1) = false from by decide, Bool.false_and]; exact Bool.false_ne_true), hp]
  exact ⟨by show w.reverse.toArray.size ≤ sizeLine; simpa using hz, .str (SX.S w.reverse), H4, I5.tok _, ⟨_, rfl⟩, q⟩
theorem ev_revW {w : List Nat} {k : Nat} {p1 p2 p3 : Pos} (ha : Ev X Γ ρ a (wD w)) (hl : w.length ≤ sizeLine) : Ev X Γ ρ (.Subscript a (.Slice none none (some (.UnaryOp .USub (.Constant (.int 1) k p1) p2)) p3) pos) (wD w.reverse) :=
  pe_mono (pe_revS ha) fun σ H Q ⟨O, ok, k⟩ => ⟨O, ok, fun v H' d ok' k' r' q => by
    subst q
    exact ⟨w, rep_v.mp r', hl, k _ H' _ ok' k' (rep_v.mpr rfl) rfl⟩⟩

/-! ### methods of texts -/
def ClM (K : PySem.W.Frag) (r : V → List V → Hp → VK → Prop) (z : Str) (ds : List D) (d : D) : Prop := ∀ (O : Own) (H : Hp) (us : List V) (Q : VK), (∀ a, O a → H a ≠ none) → Reps K O H ds us → (∀ v H', Ext H H' → Rep K O H' d v → Q v H') → r (.str z) us H Q
theorem ev_meth {id : String} {name z : Str} {r : V → List V → Hp → VK → Prop} {apos cpos : Pos} (slot : Slot "str" name id) (hty : typeOf (.builtin id) = pure (.type "method_descriptor")) (hm : MtR X id r) (pa : PlainAttrs "str" := by exact PySem.F.plainAttrs_str)
    (ho : Ev X Γ ρ a (.v (.str z))) (h : EvA X Γ ρ (e :: es) ds) (hd : ClM Γ.K r z ds d)
    (hbase : attributeBase a name X.env (eval a X.env) = eval a X.env := by rfl)
    (hfew : ((backTo cpos (starEach (e :: es) X.env)).all (fun x => !x.1) && (backToKw cpos (keywordEach [] X.env)).all (fun x => x.1.isSome)
      && decide ((e :: es).length + ([] : List Keyword).length + (if ([] : List Keyword).isEmpty then 0 else 1) < 30)) = true := by rfl)
    (hline : (apos.endLine == cpos.line) = true := by rfl) (hs : starEach (e :: es) X.env = (false, eval e X.env) :: starEach es X.env := by rfl) (hplain : (backTo cpos (starEach es X.env)).any (·.1) = false := by rfl) :
    Ev X Γ ρ (.Call (.Attribute a name apos) (e :: es) [] cpos) d :=
  pe_mono (pe_bm pa slot hty hm ho h hbase hfew hline hs hplain) fun σ H Q ⟨O, ok, k⟩ => ⟨O, ok, fun v H' d' ok' k' r' q => by
    subst q
    obtain rfl := rep_v.mp r'
    exact ⟨rfl, O, ok', fun us H2 ds' ok2 k2 r2 q2 => by
      subst q2
      exact hd O H2 us Q ok2.dom r2 fun v H3 e3 r3 => k v H3 d (ok2.ext e3) ((k'.trans k2).trans e3.kr) r3 rfl⟩⟩
end
end VL

set_option maxRecDepth 100000
set_option maxHeartbeats 4000000
namespace VL
open PySem PySem.Spec PyProof.Rows L2

/-! ### typed data -/
abbrev W := List Nat
abbrev eN : Unit → D := fun _ => nD
abbrev eI : Int → D := fun i => iD i
abbrev eB : Bool → D := fun i => bD i
abbrev eW : W → D := fun w => wD w
abbrev eC : Nat → D := fun c => wD [c]
abbrev eL {α : Type} (e : α → D) : List α → D := fun l => .lst (l.map e)
abbrev eT {α : Type} (e : α → D) : List α → D := fun l => .tup (l.map e)
abbrev eP {α β : Type} (e : α → D) (f : β → D) : α × β → D := fun p => .tup [e p.1, f p.2]
abbrev eP3 {α β γ : Type} (e : α → D) (f : β → D) (g : γ → D) : α × β × γ → D := fun p => .tup [e p.1, f p.2.1, g p.2.2]
/-- an item, by Python's counting -/
def ix {α : Type} [Inhabited α] (l : List α) (i : Int) : α := (L2.atI l i).getD default
def InR {α : Type} (l : List α) (i : Int) : Prop := -(l.length : Int) ≤ i ∧ i < l.length
def rngI (i j : Int) : List Int := (List.range (j - i).toNat).map fun (k : Nat) => i + k
theorem rngI_length (i j : Int) : (rngI i j).length = (j - i).toNat := by unfold rngI; simp
theorem mem_rngI {i j x : Int} : x ∈ rngI i j ↔ i ≤ x ∧ x < j := by
  unfold rngI
  rw [List.mem_map]
  constructor
  · rintro ⟨k, hk, rfl⟩
    have := List.mem_range.mp hk
    omega
  · rintro ⟨h1, h2⟩
    exact ⟨(x - i).toNat, List.mem_range.mpr (by omega), by omega⟩
theorem atI_in {α : Type} {l : List α} {i : Int} (h : InR l i) : ∃ d, L2.atI l i = some d := by
  obtain ⟨h1, h2⟩ := h
  unfold L2.atI L2.ixN
  by_cases c : 0 ≤ i
  · rw [if_pos c, if_pos h2]
    exact ⟨l[i.toNat]'(by omega), List.getElem?_eq_getElem (by omega)⟩
  · rw [if_neg c, if_pos h1]
    exact ⟨l[(i + l.length).toNat]'(by omega), List.getElem?_eq_getElem (by omega)⟩
theorem atI_ix {α : Type} [Inhabited α] {l : List α} {i : Int} (h : InR l i) : L2.atI l i = some (ix l i) := by
  obtain ⟨d, e⟩ := atI_in h
  unfold ix
  rw [e]; rfl
theorem ix_nat {α : Type} [Inhabited α] {l : List α} {k : Nat} (h : k < l.length) : ix l (k : Int) = l[k] := by
  unfold ix L2.atI L2.ixN
  rw [if_pos (by omega), if_pos (by omega)]
  show (l[(k : Int).toNat]?).getD default = _
  rw [Int.toNat_natCast, List.getElem?_eq_getElem h]; rfl
theorem ix_last {α : Type} [Inhabited α] {l : List α} {a : α} : ix (l ++ [a]) (-1) = a := by
  unfold ix L2.atI L2.ixN
  rw [if_neg (by omega), if_pos (by rw [List.length_append, List.length_singleton]; omega)]
  show ((l ++ [a])[(-1 + ((l ++ [a]).length : Int)).toNat]?).getD default = a
  have : (-1 + ((l ++ [a]).length : Int)).toNat = l.length := by rw [List.length_append, List.length_singleton]; omega
  rw [this]
  simp
theorem atI_map {α β : Type} {f : α → β} {l : List α} {i : Int} : L2.atI (l.map f) i = (L2.atI l i).map f := by
  unfold L2.atI
  rw [List.length_map]
  cases L2.ixN l.length i with
  | none => rfl
  | some j => show (l.map f)[j]? = (l[j]?).map f; rw [List.getElem?_map]
theorem cutL_map {α β : Type} {f : α → β} {l : List α} {lo hi : Option Int} : cutL (l.map f) lo hi = (cutL l lo hi).map f := by
  unfold cutL
  rw [List.map_take, List.map_drop, List.length_map]
theorem cutL_len {α : Type} (l : List α) (lo hi : Option Int) : (cutL l lo hi).length ≤ l.length := by
  unfold cutL
  rw [List.length_take, List.length_drop]
  omega
section
variable {X : Cx} {Γ : Gm} {ρ : List Sl} {tg a b c e : Expr} {es rest : List Expr} {pos p p2 : Pos} {R : D → Prop} {Rs : List D → Prop} {x : Str} {E : De} {st : Stmt} {sts : List Stmt} {K : PySem.W.Frag} {d d1 d2 d3 : D} {ds : List D} {i j : Int} {α β γ : Type} {en : α → D} {eb : β → D}
theorem ev_ixLt [Inhabited α] {l : List α} (ha : Ev X Γ ρ a (eL en l)) (hb : Ev X Γ ρ b (iD i)) (hi : InR l i) (hK : Γ.K = X.K := by rfl) (hs : PlainIx b := by intro _ _; rfl) : Ev X Γ ρ (.Subscript a b pos) (en (ix l i)) :=
  ev_ixL ha hb (by rw [atI_map, atI_ix hi]; rfl) hK hs
theorem ev_ixTt [Inhabited α] {l : List α} (ha : Ev X Γ ρ a (eT en l)) (hb : Ev X Γ ρ b (iD i)) (hi : InR l i) (hK : Γ.K = X.K := by rfl) (hs : PlainIx b := by intro _ _; rfl) : Ev X Γ ρ (.Subscript a b pos) (en (ix l i)) :=
  ev_ixT ha hb (by rw [atI_map, atI_ix hi]; rfl) hK hs
theorem ev_ixWt {w : W} (ha : Ev X Γ ρ a (wD w)) (hb : Ev X Γ ρ b (iD i)) (hi : InR w i) (hz : w.length ≤ sizeLine) (hK : Γ.K = X.K := by rfl) (hs : PlainIx b := by intro _ _; rfl) : Ev X Γ ρ (.Subscript a b pos) (eC (ix w i)) :=
  ev_ixW ha hb hz (atI_ix hi) hK hs
theorem ev_fst {q : α × β} (ha : Ev X Γ ρ a (eP en eb q)) (hb : Ev X Γ ρ b (iD 0)) (hK : Γ.K = X.K := by rfl) (hs : PlainIx b := by intro _ _; rfl) : Ev X Γ ρ (.Subscript a b pos) (en q.1) := ev_ixT ha hb rfl hK hs
theorem ev_snd {q : α × β} (ha : Ev X Γ ρ a (eP en eb q)) (hb : Ev X Γ ρ b (iD 1)) (hK : Γ.K = X.K := by rfl) (hs : PlainIx b := by intro _ _; rfl) : Ev X Γ ρ (.Subscript a b pos) (eb q.2) := ev_ixT ha hb rfl hK hs
theorem ev_slLt {l : List α} {lo hi : Option Expr} {s u : Option Int} {p2 : Pos} (ha : Ev X Γ ρ a (eL en l)) (hl : EvO X Γ ρ lo s) (hu : EvO X Γ ρ hi u) (hK : Γ.K = X.K := by rfl) : Ev X Γ ρ (.Subscript a (.Slice lo hi none p2) pos) (eL en (cutL l s u)) :=
  (ev_slL ha hl hu hK).to (by rw [cutL_map])
theorem ev_lenLt {l : List α} (hm : X.mg "len" = none) (h : Ev X Γ ρ e (eL en l)) (hK : Γ.K = X.K := by rfl) (hg : Gl X "len" := by rfl) (hst : starEach [e] X.env = (false, eval e X.env) :: starEach [] X.env := by rfl) : Ev X Γ ρ (.Call (.Name "len" p) [e] [] pos) (iD l.length) :=
  (ev_len hm h hK hg hst).to (by rw [List.length_map])
theorem ev_lenTt {l : List α} (hm : X.mg "len" = none) (h : Ev X Γ ρ e (eT en l)) (hK : Γ.K = X.K := by rfl) (hg : Gl X "len" := by rfl) (hst : starEach [e] X.env = (false, eval e X.env) :: starEach [] X.env := by rfl) : Ev X Γ ρ (.Call (.Name "len" p) [e] [] pos) (iD l.length) :=
  (ev_lenT hm h hK hg hst).to (by rw [List.length_map])
theorem ev_catt {l m : List α} (ha : Ev X Γ ρ a (eL en l)) (hb : Ev X Γ ρ b (eL en m)) (hl : l.length + m.length ≤ sizeLine) (hK : Γ.K = X.K := by rfl) : Ev X Γ ρ (.BinOp a .Add b pos) (eL en (l ++ m)) :=
  (ev_cat ha hb (by rw [List.length_map, List.length_map]; exact hl) hK).to (by show _ = D.lst _; rw [List.map_append])
theorem ev_sumT {l : List Int} (hm : X.mg "sum" = none) (h : Ev X Γ ρ e (eL eI l)) (hK : Γ.K = X.K := by rfl) (hc : X.calm = true := by rfl) (hg : Gl X "sum" := by rfl) (hst : starEach [e] X.env = (false, eval e X.env) :: starEach [] X.env := by rfl) : Ev X Γ ρ (.Call (.Name "sum" p) [e] [] pos) (iD l.sum) :=
  ev_B (cr_sum hc) hm (ea_cons h ea_nil hst) (by rw [hK]; exact cd_sum rfl) (by decide +kernel) hg (by decide) (by decide) hst
theorem ev_allT {l : List Bool} (hm : X.mg "all" = none) (h : Ev X Γ ρ e (eL eB l)) (hK : Γ.K = X.K := by rfl) (hc : X.calm = true := by rfl) (hg : Gl X "all" := by rfl) (hst : starEach [e] X.env = (false, eval e X.env) :: starEach [] X.env := by rfl) : Ev X Γ ρ (.Call (.Name "all" p) [e] [] pos) (bD (l.all id)) :=
  ev_B (cr_all hc) hm (ea_cons h ea_nil hst) (by rw [hK]; exact cd_all rfl) (by decide +kernel) hg (by decide) (by decide) hst
theorem ev_anyT {l : List Bool} (hm : X.mg "any" = none) (h : Ev X Γ ρ e (eL eB l)) (hK : Γ.K = X.K := by rfl) (hc : X.calm = true := by rfl) (hg : Gl X "any" := by rfl) (hst : starEach [e] X.env = (false, eval e X.env) :: starEach [] X.env := by rfl) : Ev X Γ ρ (.Call (.Name "any" p) [e] [] pos) (bD (l.any id)) :=
  ev_B (cr_any hc) hm (ea_cons h ea_nil hst) (by rw [hK]; exact cd_any rfl) (by decide +kernel) hg (by decide) (by decide) hst
/-- the greatest, the least of some -/
def maxL : List Int → Int
  | [] => 0
  | x :: xs => xs.foldl max x
def minL : List Int → Int
  | [] => 0
  | x :: xs => xs.foldl min x
theorem foldl_max_ge : ∀ (l : List Int) (x : Int), x ≤ l.foldl max x ∧ (∀ y ∈ l, y ≤ l.foldl max x) ∧ (l.foldl max x = x ∨ l.foldl max x ∈ l)
  | [], x => ⟨Int.le_refl _, fun _ h => absurd h List.not_mem_nil, .inl rfl⟩
  | y :: l, x => by
    obtain ⟨h1, h2, h3⟩ := foldl_max_ge l (max x y)
    rw [List.foldl_cons]
    refine ⟨by omega, fun z hz => ?_, ?_⟩
    · rcases List.mem_cons.mp hz with e | e
      · subst e; omega
      · exact h2 z e
    · rcases h3 with e | e
      · rw [e]
        by_cases c : x ≤ y
        · right; rw [Int.max_eq_right c]; exact List.mem_cons_self
        · left; omega
      · right; exact List.mem_cons_of_mem _ e
theorem foldl_min_le : ∀ (l : List Int) (x : Int), l.foldl min x ≤ x ∧ (∀ y ∈ l, l.foldl min x ≤ y) ∧ (l.foldl min x = x ∨ l.foldl min x ∈ l)
  | [], x => ⟨Int.le_refl _, fun _ h => absurd h List.not_mem_nil, .inl rfl⟩
  | y :: l, x => by
    obtain ⟨h1, h2, h3⟩ := foldl_min_le l (min x y)
    rw [List.foldl_cons]
    refine ⟨by omega, fun z hz => ?_, ?_⟩
    · rcases List.mem_cons.mp hz with e | e
      · subst e; omega
      · exact h2 z e
    · rcases h3 with e | e
      · rw [e]
        by_cases c : y ≤ x
        · right; rw [Int.min_eq_right c]; exact List.mem_cons_self
        · left; omega
      · right; exact List.mem_cons_of_mem _ e
theorem maxL_spec {l : List Int} (h : l ≠ []) : maxL l ∈ l ∧ ∀ y ∈ l, y ≤ maxL l := by
  cases l with
  | nil => exact absurd rfl h
  | cons x l =>
    obtain ⟨h1, h2, h3⟩ := foldl_max_ge l x
    refine ⟨?_, fun y hy => ?_⟩
    · rcases h3 with e | e
      · show l.foldl max x ∈ _; rw [e]; exact List.mem_cons_self
      · exact List.mem_cons_of_mem _ e
    · rcases List.mem_cons.mp hy with e | e
      · subst e; exact h1
      · exact h2 y e
theorem minL_spec {l : List Int} (h : l ≠ []) : minL l ∈ l ∧ ∀ y ∈ l, minL l ≤ y := by
  cases l with
  | nil => exact absurd rfl h
  | cons x l =>
    obtain ⟨h1, h2, h3⟩ := foldl_min_le l x
    refine ⟨?_, fun y hy => ?_⟩
    · rcases h3 with e | e
      · show l.foldl min x ∈ _; rw [e]; exact List.mem_cons_self
      · exact List.mem_cons_of_mem _ e
    · rcases List.mem_cons.mp hy with e | e
      · subst e; exact h1
      · exact h2 y e
theorem ev_maxL {l : List Int} (hm : X.mg "max" = none) (h : Ev X Γ ρ e (eL eI l)) (hn : l ≠ []) (hK : Γ.K = X.K := by rfl) (hc : X.calm = true := by rfl) (hg : Gl X "max" := by rfl) (hst : starEach [e] X.env = (false, eval e X.env) :: starEach [] X.env := by rfl) : Ev X Γ ρ (.Call (.Name "max" p) [e] [] pos) (iD (maxL l)) :=
  ev_B (cr_max hc) hm (ea_cons h ea_nil hst) (by
    rw [hK]
    refine cd_max (List.length_pos_iff.mpr hn) fun m h1 h2 => ?_
    obtain ⟨h3, h4⟩ := maxL_spec hn
    rw [show m = maxL l from Int.le_antisymm (h4 m h1) (h2 _ h3)]) (by decide +kernel) hg (by decide) (by decide) hst
theorem ev_minL {l : List Int} (hm : X.mg "min" = none) (h : Ev X Γ ρ e (eL eI l)) (hn : l ≠ []) (hK : Γ.K = X.K := by rfl) (hc : X.calm = true := by rfl) (hg : Gl X "min" := by rfl) (hst : starEach [e] X.env = (false, eval e X.env) :: starEach [] X.env := by rfl) : Ev X Γ ρ (.Call (.Name "min" p) [e] [] pos) (iD (minL l)) :=
  ev_B (cr_min hc) hm (ea_cons h ea_nil hst) (by
    rw [hK]
    refine cd_min (List.length_pos_iff.mpr hn) fun m h1 h2 => ?_
    obtain ⟨h3, h4⟩ := minL_spec hn
    rw [show m = minL l from Int.le_antisymm (h2 _ h3) (h4 m h1)]) (by decide +kernel) hg (by decide) (by decide) hst
theorem ev_tupL {l : List α} (hm : X.mg "tuple" = none) (h : Ev X Γ ρ e (eL en l)) (hK : Γ.K = X.K := by rfl) (hg : Gl X "tuple" := by rfl) (hst : starEach [e] X.env = (false, eval e X.env) :: starEach [] X.env := by rfl) : Ev X Γ ρ (.Call (.Name "tuple" p) [e] [] pos) (eT en l) :=
  ev_Ty call_tuple_of hm (ea_cons h ea_nil hst) (by rw [hK]; exact cd_tupleL rfl) (by decide +kernel) hg (by decide) (by decide) hst
theorem evn_listT {l : List α} (hm : X.mg "list" = none) (h : Ev X Γ ρ e (eT en l)) (hK : Γ.K = X.K := by rfl) (hg : Gl X "list" := by rfl) (hst : starEach [e] X.env = (false, eval e X.env) :: starEach [] X.env := by rfl) : EvN X Γ ρ (.Call (.Name "list" p) [e] [] pos) (eL en l) :=
  evn_Ty call_list_of hm (ea_cons h ea_nil hst) (by rw [hK]; exact cn_listT rfl) (by decide +kernel) hg (by decide) (by decide) hst
theorem evn_listL {l : List α} (hm : X.mg "list" = none) (h : Ev X Γ ρ e (eL en l)) (hK : Γ.K = X.K := by rfl) (hg : Gl X "list" := by rfl) (hst : starEach [e] X.env = (false, eval e X.env) :: starEach [] X.env := by rfl) : EvN X Γ ρ (.Call (.Name "list" p) [e] [] pos) (eL en l) :=
  evn_Ty call_list_of hm (ea_cons h ea_nil hst) (by rw [hK]; exact cn_listL rfl) (by decide +kernel) hg (by decide) (by decide) hst
/-! walked -/
theorem ei_listT {l : List α} (h : Ev X Γ ρ e (eL en l)) (hK : Γ.K = X.K := by rfl) : EvI X Γ ρ tg e (l.map en) := ei_list h hK
theorem ei_tupT {l : List α} (h : Ev X Γ ρ e (eT en l)) (hK : Γ.K = X.K := by rfl) : EvI X Γ ρ tg e (l.map en) := ei_tup h hK
theorem ei_strT {w : W} (h : Ev X Γ ρ e (wD w)) : EvI X Γ ρ tg e (w.map eC) := ei_str h
theorem rng_map {n : Nat} : ((List.range n).map fun (k : Nat) => iD (i + k)) = ((List.range n).map fun (k : Nat) => i + (k : Int)).map eI := by rw [List.map_map]; rfl
theorem ei_rng1T (hm : X.mg "range" = none) (h : Ev X Γ ρ a (iD i)) (hb : i < 2 ^ 62 ∧ -(2 ^ 62) ≤ i) (hg : Gl X "range" := by rfl) (hs : starEach [a] X.env = [(false, eval a X.env)] := by rfl) :
    EvI X Γ ρ tg (.Call (.Name "range" p) [a] [] pos) ((rngI 0 i).map eI) := by
  have := ei_range1 (tg := tg) (p := p) (pos := pos) hm h rfl hb hg hs
  have e : ((List.range i.toNat).map fun (k : Nat) => iD (k : Int)) = (rngI 0 i).map eI := by
    unfold rngI
    rw [List.map_map, show i - 0 = i from by omega]
    apply List.map_congr_left
    intro k _
    show iD (k : Int) = iD (0 + k)
    rw [Int.zero_add]
  rw [e] at this
  exact this
theorem ei_rng2T (hm : X.mg "range" = none) (h : Ev X Γ ρ a (iD i)) (h2 : Ev X Γ ρ b (iD j)) (hb : -(2 ^ 62) ≤ i ∧ i < 2 ^ 62 ∧ -(2 ^ 62) ≤ j ∧ j < 2 ^ 62) (hg : Gl X "range" := by rfl)
    (hs : starEach [a, b] X.env = [(false, eval a X.env), (false, eval b X.env)] := by rfl) (hs2 : starEach [b] X.env = [(false, eval b X.env)] := by rfl) :
    EvI X Γ ρ tg (.Call (.Name "range" p) [a, b] [] pos) ((rngI i j).map eI) := by
  have := ei_range2 (tg := tg) (p := p) (pos := pos) hm h h2 rfl hb hg hs hs2
  rw [rng_map] at this
  exact this
theorem ei_rngVT (h : Ev X Γ ρ e (.rng i j)) (hb : -(2 ^ 62) ≤ i ∧ i < 2 ^ 62 ∧ -(2 ^ 62) ≤ j ∧ j < 2 ^ 62) : EvI X Γ ρ tg e ((rngI i j).map eI) := by
  have := ei_rngV (tg := tg) h hb
  rw [rng_map] at this
  exact this
/-! comprehensions -/
variable {elt iter : Expr} {ifs : List Expr} {scope : Scope} {g : α → D} {xs : List α} {f : α → β} {q : α → Bool} {ρ2 : α → List Sl}
theorem evn_mapT (own : List (Str × Nat)) (hi : EvI X Γ ρ tg iter (xs.map g)) (hN : X.N.Nodup) (hsz : xs.length ≤ sizeLine)
    (ht : ∀ a ∈ xs, ∀ (s : Shared) (H : Hp) (C : Addr) (cl : List (Str × Addr)) (fp : List Addr), EvG (X.blk s H scope (compEnvC scope cl C X.env) fp) Γ (wipeS ρ (own.map (·.2))) tg (g a) (fun i => i ∈ own.map (·.2)) (ρ2 a))
    (he : ∀ a ∈ xs, ∀ (s : Shared) (H : Hp) (C : Addr) (cl : List (Str × Addr)) (fp : List Addr), Ev (X.blk s H scope (compEnvC scope cl C X.env) fp) Γ (ρ2 a) elt (eb (f a)))
    (hc : X.calm = true := by rfl) (ok : blkC X.N X.env.scope scope own = true := by kernel_rfl) (hs : ∀ x, foldedSetIterable iter X.env x = pure x := by intro _; rfl) : EvN X Γ ρ (.ListComp elt [⟨tg, iter, [], 0⟩] scope pos) (eL eb (xs.map f)) := by
  have := evn_lcM (elt := elt) (pos := pos) (f := fun a => eb (f a)) own hi hN hsz ht he hc ok hs
  rw [show (xs.map fun a => eb (f a)) = (xs.map f).map eb from by rw [List.map_map]; rfl] at this
  exact this
theorem evn_filT (own : List (Str × Nat)) (hi : EvI X Γ ρ tg iter (xs.map g)) (hN : X.N.Nodup) (hsz : xs.length ≤ sizeLine)
    (ht : ∀ a ∈ xs, ∀ (s : Shared) (H : Hp) (C : Addr) (cl : List (Str × Addr)) (fp : List Addr), EvG (X.blk s H scope (compEnvC scope cl C X.env) fp) Γ (wipeS ρ (own.map (·.2))) tg (g a) (fun i => i ∈ own.map (·.2)) (ρ2 a))
    (hq : ∀ a ∈ xs, ∀ (s : Shared) (H : Hp) (C : Addr) (cl : List (Str × Addr)) (fp : List Addr), EvT (X.blk s H scope (compEnvC scope cl C X.env) fp) Γ (ρ2 a) c (q a))
    (he : ∀ a ∈ xs, q a = true → ∀ (s : Shared) (H : Hp) (C : Addr) (cl : List (Str × Addr)) (fp : List Addr), Ev (X.blk s H scope (compEnvC scope cl C X.env) fp) Γ (ρ2 a) elt (eb (f a)))
    (hc : X.calm = true := by rfl) (ok : blkC X.N X.env.scope scope own = true := by kernel_rfl) (hs : ∀ x, foldedSetIterable iter X.env x = pure x := by intro _; rfl) : EvN X Γ ρ (.ListComp elt [⟨tg, iter, [c], 0⟩] scope pos) (eL eb ((xs.filter q).map f)) := by
  have := evn_lcF (elt := elt) (pos := pos) (f := fun a => eb (f a)) own hi hN hsz ht hq he hc ok hs
  rw [show ((xs.filter q).map fun a => eb (f a)) = ((xs.filter q).map f).map eb from by rw [List.map_map]; rfl] at this
  exact this
/-! statements -/
/-- ends with this result -/
def Er (d : D) : De := { nx := fun _ => nD = d, rt := fun _ d' => d' = d }
/-- ends with this result, a new object -/
def Ern (d : D) : De := { nx := fun _ => False, rt := fun _ _ => False, ro := fun _ _ P => ∀ d', P d' → d' = d }
/-- goes on with these slots -/
def Es (ρ' : List Sl) : De := { nx := fun r => Fg r ρ', rt := fun _ _ => False }
theorem fg_same : Fg ρ ρ := Fg.refl ρ
theorem wb_retE (h : Ev X Γ ρ e d) : WB X Γ ρ (.Return (some e) pos :: sts) (Er d) := wb_ret h rfl
theorem wb_retNE : WB X Γ ρ (.Return none pos :: sts) (Er nD) := wb_cons (ws_retN rfl)
theorem wb_retWE (h : EvN X Γ ρ e d) : WB X Γ ρ (.Return (some e) pos :: sts) (Ern d) := wb_retW h fun _ _ z => z
theorem wb_endE : WB X Γ ρ [] (Er nD) := wb_nil rfl
theorem wb_endS {ρ' : List Sl} (f : Fg ρ ρ') : WB X Γ ρ [] (Es ρ') := wb_nil f
/-- a branch that leaves, the rest -/
theorem wb_ifG {s1 : List Stmt} {k : Bool} {F : γ → De} {b1 b2 : γ} (h : EvT X Γ ρ c k) (h1 : k = true → WB X Γ ρ s1 ((F b1).to fun _ => False)) (h2 : k = false → WB X Γ ρ sts (F b2)) : WB X Γ ρ (.If c s1 [] pos :: sts) (F (if k then b1 else b2)) := by
  refine wb_if h (fun z => ?_) fun z => wb_nil ?_
  · subst z
    exact pss_mono (h1 rfl) fun D' σ H ⟨O, ok, k1, k2, k3, k4, k5⟩ => ⟨O, ok, fun _ _ _ _ q => q.elim, k2, k3, k4, k5⟩
  · subst z
    exact h2 rfl
/-- if, else: the last of a block -/
theorem wb_ifE {s1 s2 : List Stmt} {k : Bool} {F : γ → De} {b1 b2 : γ} (h : EvT X Γ ρ c k) (h1 : k = true → WB X Γ ρ s1 (F b1)) (h2 : k = false → WB X Γ ρ s2 (F b2)) : WB X Γ ρ [.If c s1 s2 pos] (F (if k then b1 else b2)) := by
  refine wb_one (ws_if (h.wt ⟨fun z => ?_, fun z => ?_⟩))
  · subst z; exact h1 rfl
  · subst z; exact h2 rfl
theorem wb_retL (h : WB X Γ ρ sts (Er d)) : WB X Γ ρ sts ((Er d).to fun _ => False) → WB X Γ ρ sts ((Er d).to fun _ => False) := fun z => z
theorem wb_retG {F : γ → De} {b1 : γ} (h : Ev X Γ ρ e d) (q : (F b1).rt ρ d) : WB X Γ ρ (.Return (some e) pos :: sts) ((F b1).to fun _ => False) := wb_ret h q
/-- both go on -/
theorem wb_ifM {s1 s2 : List Stmt} {k : Bool} (r : Bool → List Sl) (h : EvT X Γ ρ c k) (h1 : k = true → WB X Γ ρ s1 (Es (r true))) (h2 : k = false → WB X Γ ρ s2 (Es (r false))) (hk : WB X Γ (r k) sts E) : WB X Γ ρ (.If c s1 s2 pos :: sts) E := by
  refine wb_if h (fun z => ?_) fun z => ?_
  · subst z
    exact pss_mono (h1 rfl) fun D' σ H ⟨O, ok, k1, _, _, k4, _⟩ => ⟨O, ok, fun ρ' σ' H' O' q ok' s => k1 ρ' σ' H' O' (wb_fg q hk) ok' s, fun _ _ _ _ q => q.elim, fun _ _ _ _ q => q.elim, fun _ _ _ _ _ _ q => q.elim, fun _ _ _ _ _ _ q => q.elim⟩
  · subst z
    exact pss_mono (h2 rfl) fun D' σ H ⟨O, ok, k1, _, _, k4, _⟩ => ⟨O, ok, fun ρ' σ' H' O' q ok' s => k1 ρ' σ' H' O' (wb_fg q hk) ok' s, fun _ _ _ _ q => q.elim, fun _ _ _ _ q => q.elim, fun _ _ _ _ _ _ q => q.elim, fun _ _ _ _ _ _ q => q.elim⟩
/-- how a turn of a loop ends -/
inductive Ctl (R S : Type) where
  | ret (r : R)
  | go (s : S)
  | br (s : S)
def runL {R S : Type} (f : S → α → Ctl R S) : List α → S → Ctl R S
  | [], s => .go s
  | x :: xs, s => match f s x with
    | .ret r => .ret r
    | .br s => .br s
    | .go s => runL f xs s
def Ec {R S : Type} (er : R → D) (es : S → List Sl) (c : Ctl R S) : De := { nx := fun ρ => ∃ s, c = .go s ∧ Fg ρ (es s), ct := fun ρ => ∃ s, c = .go s ∧ Fg ρ (es s), bk := fun ρ => ∃ s, c = .br s ∧ Fg ρ (es s), rt := fun _ d => ∃ r, c = .ret r ∧ d = er r }
theorem wb_goC {R S : Type} {er : R → D} {es : S → List Sl} {s : S} (f : Fg ρ (es s)) : WB X Γ ρ [] (Ec er es (.go s)) := wb_nil ⟨s, rfl, f⟩
theorem wb_ctC {R S : Type} {er : R → D} {es : S → List Sl} {s : S} (f : Fg ρ (es s)) : WB X Γ ρ (.Continue pos :: sts) ((Ec er es (.go s)).to fun _ => False) := wb_cons (ws_continue ⟨s, rfl, f⟩)
theorem wb_brC {R S : Type} {er : R → D} {es : S → List Sl} {s : S} (f : Fg ρ (es s)) : WB X Γ ρ (.Break pos :: sts) ((Ec er es (.br s)).to fun _ => False) := wb_cons (ws_break ⟨s, rfl, f⟩)
theorem wb_retC {R S : Type} {er : R → D} {es : S → List Sl} {r : R} (h : Ev X Γ ρ e (er r)) : WB X Γ ρ (.Return (some e) pos :: sts) ((Ec er es (.ret r)).to fun _ => False) := wb_ret h ⟨r, rfl, rfl⟩
theorem runL_snoc {R S : Type} (f : S → α → Ctl R S) : ∀ (xs : List α) (s s' : S) (x : α), runL f xs s = .go s' → runL f (xs ++ [x]) s = f s' x
  | [], s, s', x, h => by
    cases h
    show (match f s x with | .ret r => Ctl.ret r | .br s => Ctl.br s | .go s => Ctl.go s) = _
    cases f s x <;> rfl
  | y :: xs, s, s', x, h => by
    show (match f s y with | .ret r => Ctl.ret r | .br s => Ctl.br s | .go s => runL f (xs ++ [x]) s) = _
    revert h
    show (match f s y with | .ret r => Ctl.ret r | .br s => Ctl.br s | .go s => runL f xs s) = .go s' → _
    cases f s y with
    | ret r => intro h; cases h
    | br r => intro h; cases h
    | go s2 => intro h; exact runL_snoc f xs s2 s' x h
theorem runL_stop {R S : Type} (f : S → α → Ctl R S) : ∀ (xs ys : List α) (s : S), (∀ s', runL f xs s ≠ .go s') → runL f (xs ++ ys) s = runL f xs s
  | [], ys, s, h => absurd rfl (h s)
  | y :: xs, ys, s, h => by
    show (match f s y with | .ret r => Ctl.ret r | .br s => Ctl.br s | .go s => runL f (xs ++ ys) s) = (match f s y with | .ret r => Ctl.ret r | .br s => Ctl.br s | .go s => runL f xs s)
    revert h
    show (∀ s', (match f s y with | .ret r => Ctl.ret r | .br s => Ctl.br s | .go s => runL f xs s) ≠ .go s') → _
    cases f s y with
    | ret r => intro _; rfl
    | br r => intro _; rfl
    | go s2 => intro h; exact runL_stop f xs ys s2 h
/-- for with no way out -/
theorem wb_for {S : Type} {body : List Stmt} (enc : S → List Sl) (step : S → α → S) (s0 : S) (J : Nat → S → Prop) (hi : EvI X Γ (enc s0) tg e (xs.map g)) (f0 : Fg ρ (enc s0)) (h0 : J 0 s0)
    (turn : ∀ i a s, xs[i]? = some a → J i s → s = (xs.take i).foldl step s0 → J (i + 1) (step s a) ∧ WG X Γ (enc s) tg (g a) (fun _ => True) fun r => WB X Γ r body (Ec (fun _ : Unit => nD) enc (.go (step s a))))
    (k : J xs.length (xs.foldl step s0) → WB X Γ (enc (xs.foldl step s0)) sts E) (hp : PassesOwn (model X.prog X.w) X.A X.env X.xe := by exact PassesOwn.never) (hc : X.calm = true := by rfl)
    (hs : ∀ x, foldedSetIterable e X.env x = pure x := by intro _; rfl) : WB X Γ ρ (.For tg e body [] pos :: sts) E := by
  refine wb_cons (ws_forJ (β := S) (xs := xs) (g := g) enc (fun i s => J i s ∧ s = (xs.take i).foldl step s0) s0 hi ⟨h0, by rw [List.take_zero]; rfl⟩ f0 (fun i a s ha ⟨hJ, es⟩ => ?_) (fun s ⟨hJ, es⟩ => ?_) hp hc hs)
  · obtain ⟨hJ2, hw⟩ := turn i a s ha hJ es
    have e2 : step s a = (xs.take (i + 1)).foldl step s0 := by rw [take_snoc ha, List.foldl_append, ← es]; rfl
    refine wg_imp hw fun r h => pss_mono h fun D' σ H ⟨O, ok, k1, k2, k3, k4, k5⟩ => ⟨O, ok, fun ρ' σ' H' O' q ok' s2 => ?_, fun _ _ _ _ q => ?_, fun ρ' σ' H' O' q ok' s2 => ?_, fun _ _ _ _ _ _ q => ?_, fun _ _ _ _ _ _ q => q.elim⟩
    · obtain ⟨s', e, q⟩ := q
      cases e
      exact k1 ρ' σ' H' O' ⟨_, ⟨hJ2, e2⟩, q⟩ ok' s2
    · obtain ⟨s', e, q⟩ := q
      cases e
    · obtain ⟨s', e, q⟩ := q
      cases e
      exact k3 ρ' σ' H' O' ⟨_, ⟨hJ2, e2⟩, q⟩ ok' s2
    · obtain ⟨s', e, q⟩ := q
      cases e
  · rw [List.take_length] at es
    subst es
    exact k hJ
/-- for with a way out -/
theorem wb_forC {R S : Type} {body : List Stmt} {er : R → D} (enc : S → List Sl) (step : S → α → Ctl R S) (s0 : S) (J : Nat → S → Prop) (hi : EvI X Γ (enc s0) tg e (xs.map g)) (f0 : Fg ρ (enc s0)) (h0 : J 0 s0)
    (turn : ∀ i a s, xs[i]? = some a → J i s → runL step (xs.take i) s0 = .go s → (∀ s', step s a = .go s' → J (i + 1) s') ∧ WG X Γ (enc s) tg (g a) (fun _ => True) fun r => WB X Γ r body (Ec er enc (step s a)))
    (kr : ∀ r, runL step xs s0 = .ret r → ∀ ρ', E.rt ρ' (er r)) (kb : ∀ s, runL step xs s0 = .br s → WB X Γ (enc s) sts E)
    (k : ∀ s, runL step xs s0 = .go s → J xs.length s → WB X Γ (enc s) sts E) (hp : PassesOwn (model X.prog X.w) X.A X.env X.xe := by exact PassesOwn.never) (hc : X.calm = true := by rfl)
    (hs : ∀ x, foldedSetIterable e X.env x = pure x := by intro _; rfl) : WB X Γ ρ (.For tg e body [] pos :: sts) E := by
  refine wb_cons (ws_forJ (β := S) (xs := xs) (g := g) enc (fun i s => J i s ∧ runL step (xs.take i) s0 = .go s) s0 hi ⟨h0, by rw [List.take_zero]; rfl⟩ f0 (fun i a s ha ⟨hJ, es⟩ => ?_) (fun s ⟨hJ, es⟩ => ?_) hp hc hs)
  · obtain ⟨hJ2, hw⟩ := turn i a s ha hJ es
    have e2 : runL step (xs.take (i + 1)) s0 = step s a := by rw [take_snoc ha]; exact runL_snoc step _ _ _ _ es
    have e3 : (∀ s', step s a ≠ .go s') → runL step xs s0 = step s a := fun hn => by
      have := runL_stop step (xs.take (i + 1)) (xs.drop (i + 1)) s0 (by rw [e2]; exact hn)
      rw [List.take_append_drop, e2] at this
      exact this
    refine wg_imp hw fun r h => pss_mono h fun D' σ H ⟨O, ok, k1, k2, k3, k4, k5⟩ => ⟨O, ok, fun ρ' σ' H' O' ⟨s', e, q⟩ ok' s2 => k1 ρ' σ' H' O' ⟨s', ⟨hJ2 s' e, by rw [e2, e]⟩, q⟩ ok' s2,
      fun ρ' σ' H' O' ⟨s', e, q⟩ ok' s2 => k2 ρ' σ' H' O' (wb_fg q (kb s' ((e3 fun z ez => by rw [e] at ez; cases ez).trans e))) ok' s2,
      fun ρ' σ' H' O' ⟨s', e, q⟩ ok' s2 => k3 ρ' σ' H' O' ⟨s', ⟨hJ2 s' e, by rw [e2, e]⟩, q⟩ ok' s2,
      fun ρ' σ' H' O' v d ⟨s', e, q⟩ ok' s2 rr => k4 ρ' σ' H' O' v d (by subst q; exact kr s' ((e3 fun z ez => by rw [e] at ez; cases ez).trans e) ρ') ok' s2 rr, fun _ _ _ _ _ _ q => q.elim⟩
  · rw [List.take_length] at es
    exact k s es hJ
end
end VL

set_option maxRecDepth 100000
set_option maxHeartbeats 4000000
namespace VL
open PySem PySem.Spec PyProof.Rows L2
section
variable {X : Cx} {Γ : Gm} {ρ : List Sl} {tg tg1 iter iter1 elt a b c e : Expr} {ifs ifs1 : List Expr} {es rest : List Expr} {pos p : Pos} {R : D → Prop} {x : Str} {E : De} {st : Stmt} {sts : List Stmt} {K : PySem.W.Frag} {scope : Scope} {α β γ : Type}
def LcI (X : Cx) (Γ : Gm) (scope : Scope) (tg1 iter1 : Expr) : TI := fun σ H Q => ∃ (q : List Sl × (List D → Prop)), (∀ (s : Shared) (H : Hp) (C : Addr) (cl : List (Str × Addr)) (fp : List Addr), WI (X.blk s H scope (compEnvC scope cl C X.env) fp) Γ q.1 tg1 iter1 q.2) ∧ tI Γ q.1 q.2 σ H Q
theorem lcI_ok (s : Shared) (H : Hp) (C : Addr) (cl : List (Str × Addr)) (fp : List Addr) : PI (X.blk s H scope (compEnvC scope cl C X.env) fp) tg1 iter1 (LcI X Γ scope tg1 iter1) := pi_ex fun q h => h s H C cl fp
/-- one turn of the inner of two clauses -/
def LcIn (X : Cx) (Γ : Gm) (ρ2 : List Sl) (scope : Scope) (vs1 : List Nat) (tg1 : Expr) (ifs1 : List Expr) (elt : Expr) (d : D) (q : Bool) (y : D) : Prop :=
  ∀ (s : Shared) (H : Hp) (C : Addr) (cl : List (Str × Addr)) (fp : List Addr), WG (X.blk s H scope (compEnvC scope cl C X.env) fp) Γ (wipeS ρ2 vs1) tg1 d (fun i => i ∈ vs1) fun ρ3 =>
  (∀ (s : Shared) (H : Hp) (C : Addr) (cl : List (Str × Addr)) (fp : List Addr), WTs (X.blk s H scope (compEnvC scope cl C X.env) fp) Γ ρ3 ifs1 fun b => b = q) ∧ (q = true →
  ∀ (s : Shared) (H : Hp) (C : Addr) (cl : List (Str × Addr)) (fp : List Addr), WE (X.blk s H scope (compEnvC scope cl C X.env) fp) Γ ρ3 elt fun z => z = y)
/-- one turn of the outer -/
def LcOut (X : Cx) (Γ : Gm) (ρ : List Sl) (scope : Scope) (vs vs1 : List Nat) (tg tg1 iter1 : Expr) (ifs ifs1 : List Expr) (elt : Expr) (d : D) (q : Bool) (zs : List (D × Bool × D)) : Prop :=
  ∀ (s : Shared) (H : Hp) (C : Addr) (cl : List (Str × Addr)) (fp : List Addr), WG (X.blk s H scope (compEnvC scope cl C X.env) fp) Γ (wipeS ρ vs) tg d (fun i => i ∈ vs) fun ρ2 =>
  (∀ (s : Shared) (H : Hp) (C : Addr) (cl : List (Str × Addr)) (fp : List Addr), WTs (X.blk s H scope (compEnvC scope cl C X.env) fp) Γ ρ2 ifs fun b => b = q) ∧ (q = true →
  (∀ (s : Shared) (H : Hp) (C : Addr) (cl : List (Str × Addr)) (fp : List Addr), WI (X.blk s H scope (compEnvC scope cl C X.env) fp) Γ ρ2 tg1 iter1 fun items => items = zs.map (·.1)) ∧
  ∀ z ∈ zs, LcIn X Γ ρ2 scope vs1 tg1 ifs1 elt z.1 z.2.1 z.2.2)
def keepZ (zs : List (D × Bool × D)) : List D := (zs.filter (·.2.1)).map (·.2.2)
theorem keepZ_snoc {zs : List (D × Bool × D)} {z : D × Bool × D} : keepZ (zs ++ [z]) = keepZ zs ++ (if z.2.1 then [z.2.2] else []) := by
  unfold keepZ
  rw [List.filter_append, List.map_append]
  congr 1
  cases h : z.2.1 <;> simp [h]
theorem wipe_wipe (vs : List Nat) (σ : L2.St) : L2.wipe (L2.wipe σ vs) vs = L2.wipe σ vs := wipe_off ⟨wipe_length σ vs, fun j n => wipe_out n⟩
theorem lc2_read {g : α → D} {q : α → Bool} {zs : α → List (D × Bool × D)} {vs vs1 : List Nat} {wi : TI} {σ : L2.St} {H : Hp} {Q : VK} {R' : List D → Prop} (xs : List α) (hwi : ∀ RR, tI Γ ρ R' σ H RR → wi σ H RR)
    (h : ∀ items, R' items → items = xs.map g) (turn : ∀ a ∈ xs, LcOut X Γ ρ scope vs vs1 tg tg1 iter1 ifs ifs1 elt (g a) (q a) (zs a))
    (hsz : (xs.map fun a => (zs a).length).sum ≤ sizeLine) (fin : R (.lst (xs.flatMap fun a => if q a then keepZ (zs a) else [])))
    (qq : tN Γ ρ R σ H Q) : tLc2 wi (LcG X Γ scope vs tg) (LcT X Γ scope ifs) (LcI X Γ scope tg1 iter1) (LcG X Γ scope vs1 tg1) (LcT X Γ scope ifs1) (LcE X Γ scope elt) vs vs1 σ H Q := by
  obtain ⟨O, ok, k⟩ := qq
  refine hwi _ ⟨O, ok, fun J H1 items ok1 k1 W hR => ?_⟩
  have eit := h items hR
  have elen : items.length = xs.length := by rw [eit, List.length_map]
  intro Dn hD
  obtain ⟨nO, nW, n0⟩ := ok1.fresh hD
  have nOw : ¬ Owns ρ Dn := fun ⟨i, P, z⟩ => by
    obtain ⟨v, _, r⟩ := ok1.env.get z
    exact nO r.2.1
  let Bl : Nat → List D := fun i => (xs.take i).flatMap fun a => if q a then keepZ (zs a) else []
  have hn1 : ∀ a o, H1 a = some o → a ≠ Dn := fun a o ea z => by rw [z, hD] at ea; cases ea
  refine ⟨fun i m H' => m = items.length - i ∧ i ≤ items.length ∧ Ok Γ (addO O Dn) ρ σ H' ∧ Keep O H1 H' ∧ KR ρ H1 H' ∧ ∃ acc, H' Dn = some (.lst acc) ∧ Reps Γ.K (addO O Dn) H' (Bl i) acc,
    ⟨items.length, by simp, Nat.zero_le _, ok1.new hD, (Ext.new hD).keep, (Ext.new hD).kr, [], upd_same, Reps.nil⟩, ?_⟩
  rintro i m H' ⟨rfl, hi, ok', kp', kr', acc, hDn, racc⟩
  by_cases hlt : i < items.length
  · refine .inr ⟨W.go H' kp' i hlt, fun H2 => Ok Γ (addO O Dn) ρ σ H2 ∧ Keep O H1 H2 ∧ KR ρ H1 H2 ∧ ∃ acc, H2 Dn = some (.lst acc) ∧ Reps Γ.K (addO O Dn) H2 (Bl (i + 1)) acc, fun H2 z => ⟨items.length - (i + 1), by omega, rfl, hlt, z⟩, fun x H3 y => ?_⟩
    obtain ⟨e3, d, hd, r3⟩ := W.yld H' kp' i x H3 hlt y
    have ok3 := ok'.ext e3
    obtain ⟨x0, hx0, ex0⟩ : ∃ x0, xs[i]? = some x0 ∧ g x0 = d := by
      rw [eit, List.getElem?_map] at hd
      cases q : xs[i]? with
      | none => rw [q] at hd; cases hd
      | some z => rw [q] at hd; exact ⟨z, rfl, Option.some.inj hd⟩
    subst ex0
    have hmem : x0 ∈ xs := List.mem_of_getElem? hx0
    have hBl : Bl (i + 1) = Bl i ++ (if q x0 then keepZ (zs x0) else []) := by
      show (xs.take (i + 1)).flatMap _ = _
      rw [take_snoc hx0, List.flatMap_append]
      simp [Bl]
    have hsum : (Bl i).length + (zs x0).length ≤ sizeLine := by
      have hle : ∀ (l : List α), (l.flatMap fun a => if q a then keepZ (zs a) else []).length ≤ (l.map fun a => (zs a).length).sum := by
        intro l
        induction l with
        | nil => simp
        | cons a l ih =>
          rw [List.flatMap_cons, List.length_append, List.map_cons, List.sum_cons]
          have : (if q a = true then keepZ (zs a) else []).length ≤ (zs a).length := by
            split
            · unfold keepZ
              rw [List.length_map]
              exact List.length_filter_le _ _
            · exact Nat.zero_le _
          omega
      have h1 := hle (xs.take i)
      have h2 : ((xs.take (i + 1)).map fun a => (zs a).length).sum ≤ (xs.map fun a => (zs a).length).sum := by
        conv => rhs; rw [← List.take_append_drop (i + 1) xs]
        rw [List.map_append, List.sum_append]
        omega
      rw [take_snoc hx0, List.map_append, List.sum_append] at h2
      have h3 : (List.map (fun a => (zs a).length) [x0]).sum = (zs x0).length := by simp
      rw [h3] at h2
      have h4 : (Bl i).length ≤ ((xs.take i).map fun a => (zs a).length).sum := h1
      omega
    have oO : ∀ a, addO O Dn a → O a ∨ H1 a = none := fun a z => z.elim .inl fun e => .inr (e ▸ hD)
    have okw := ok3.wipe vs
    refine ⟨(g x0, wipeS ρ vs, _), turn x0 hmem, addO O Dn, okw, r3 _ oO ok'.dom, fun ρ2 σ2 H2 ok2 s2 k2 f2 q2 => ⟨?_, ?_⟩⟩
    · rw [wipe_off f2.st]; exact wipe_wipe vs σ
    obtain ⟨qt, qi⟩ := q2
    have nD2 : ¬ Owns (wipeS ρ vs) Dn := fun z => nOw (owns_wipe z)
    have nD22 : ¬ Owns ρ2 Dn := fun z => nD2 (s2 _ z)
    -- the heap behind the outer target
    have back : ∀ {H4 : Hp}, KR ρ2 H2 H4 → Ok Γ (addO O Dn) ρ2 σ2 H4 → Ok Γ (addO O Dn) ρ σ H4 ∧ Keep O H1 H4 ∧ KR ρ H1 H4 ∧ H4 Dn = some (.lst acc) ∧ Reps Γ.K (addO O Dn) H4 (Bl i) acc := by
      intro H4 k4 o4
      have kw : KR (wipeS ρ vs) H3 H4 := k2.trans (k4.sub s2)
      obtain ⟨o5, k5⟩ := ok3.unblock o4 f2 kw
      have e3k : KR ρ H' H4 := (Ext.kr e3).trans k5
      refine ⟨o5, fun a o n ea => ?_, kr'.trans e3k, kw Dn _ nD2 (e3 _ _ hDn), racc.keep (e3k.keep ok')⟩
      have na : ¬ Owns ρ a := fun ⟨j, P, z⟩ => by
        obtain ⟨v, _, r⟩ := ok1.env.get z
        exact n r.2.1
      exact e3k a o na (kp' a o n ea)
    refine ⟨(ρ2, _), qt, addO O Dn, ok2, fun b H4 ok4 k4 q4 => ?_⟩
    obtain ⟨o5, kp5, kr5, hD5, ra5⟩ := back k4 ok4
    subst q4
    cases hq : q x0 with
    | false =>
      refine iteF ⟨o5, kp5, kr5, acc, hD5, ?_⟩
      rw [hBl, hq]
      simpa using ra5
    | true =>
      obtain ⟨qin, qtu⟩ := qi hq
      refine iteT ⟨(ρ2, _), qin, addO O Dn, ok4, fun J1 H5 its1 ok51 k51 W1 hR1 => ?_⟩
      obtain ⟨o6, kp6, kr6, hD6, ra6⟩ := back (k4.trans k51) ok51
      -- the inner loop
      refine ⟨fun j m Hj => m = its1.length - j ∧ j ≤ its1.length ∧ Ok Γ (addO O Dn) ρ2 σ2 Hj ∧ Ok Γ (addO O Dn) ρ σ Hj ∧ Keep (addO O Dn) H5 Hj ∧ Keep O H1 Hj ∧ KR ρ H1 Hj ∧ ∃ acc, Hj Dn = some (.lst acc) ∧ Reps Γ.K (addO O Dn) Hj (Bl i ++ keepZ ((zs x0).take j)) acc,
        ⟨its1.length, by simp, Nat.zero_le _, ok51, o6, Keep.refl _, kp6, kr6, acc, hD6, by simpa [keepZ] using ra6⟩, ?_⟩
      rintro j m Hj ⟨rfl, hj, okj2, okj, kpj5, kpj, krj, accj, hDj, raj⟩
      have el1 : its1.length = (zs x0).length := by rw [hR1, List.length_map]
      by_cases hjl : j < its1.length
      · refine .inr ⟨W1.go Hj kpj5 j hjl, fun Hn => Ok Γ (addO O Dn) ρ2 σ2 Hn ∧ Ok Γ (addO O Dn) ρ σ Hn ∧ Keep (addO O Dn) H5 Hn ∧ Keep O H1 Hn ∧ KR ρ H1 Hn ∧ ∃ acc, Hn Dn = some (.lst acc) ∧ Reps Γ.K (addO O Dn) Hn (Bl i ++ keepZ ((zs x0).take (j + 1))) acc, fun Hn z => ⟨its1.length - (j + 1), by omega, rfl, hjl, z⟩, fun x1 H6 y1 => ?_⟩
        obtain ⟨e6, d1, hd1, r6⟩ := W1.yld Hj kpj5 j x1 H6 hjl y1
        obtain ⟨z0, hz0, ez0⟩ : ∃ z0, (zs x0)[j]? = some z0 ∧ z0.1 = d1 := by
          rw [hR1, List.getElem?_map] at hd1
          cases q : (zs x0)[j]? with
          | none => rw [q] at hd1; cases hd1
          | some z => rw [q] at hd1; exact ⟨z, rfl, Option.some.inj hd1⟩
        subst ez0
        have ok6 := okj2.ext e6
        have ok6' := okj.ext e6
        refine ⟨(z0.1, wipeS ρ2 vs1, _), qtu z0 (List.mem_of_getElem? hz0), addO O Dn, ok6.wipe vs1, r6 _ (fun a z => .inl z) okj2.dom, fun ρ3 σ3 H7 ok7 s7 k7 f7 q7 => ⟨?_, ?_⟩⟩
        · rw [wipe_off f7.st]; exact wipe_wipe vs1 σ2
        obtain ⟨q7t, q7e⟩ := q7
        have nD3 : ¬ Owns (wipeS ρ2 vs1) Dn := fun z => nD22 (owns_wipe z)
        have back2 : ∀ {H8 : Hp}, KR ρ3 H7 H8 → Ok Γ (addO O Dn) ρ3 σ3 H8 → Ok Γ (addO O Dn) ρ2 σ2 H8 ∧ Ok Γ (addO O Dn) ρ σ H8 ∧ Keep (addO O Dn) H5 H8 ∧ Keep O H1 H8 ∧ KR ρ H1 H8 ∧ H8 Dn = some (.lst accj) ∧ Reps Γ.K (addO O Dn) H8 (Bl i ++ keepZ ((zs x0).take j)) accj := by
          intro H8 k8 o8
          have kw : KR (wipeS ρ2 vs1) H6 H8 := k7.trans (k8.sub s7)
          obtain ⟨o9, k9⟩ := ok6.unblock o8 f7 kw
          have kw2 : KR (wipeS ρ vs) H6 H8 := k9.sub s2
          obtain ⟨o10, k10⟩ := ok6'.unblock o9 f2 kw2
          have e6k : KR ρ Hj H8 := (Ext.kr e6).trans k10
          have kk : Keep (addO O Dn) Hj H8 := e6k.keep okj
          refine ⟨o9, o10, kpj5.trans kk, fun a o n ea => ?_, krj.trans e6k, kw Dn _ nD3 (e6 _ _ hDj), raj.keep kk⟩
          have na : ¬ Owns ρ a := fun ⟨j, P, z⟩ => by
            obtain ⟨v, _, r⟩ := ok1.env.get z
            exact n r.2.1
          exact e6k a o na (kpj a o n ea)
        have htk : (zs x0).take (j + 1) = (zs x0).take j ++ [z0] := take_snoc hz0
        refine ⟨(ρ3, _), q7t, addO O Dn, ok7, fun b H8 ok8 k8 q8 => ?_⟩
        obtain ⟨o11, o12, kp11, kp12, kr11, hD11, ra11⟩ := back2 k8 ok8
        subst q8
        cases hq1 : z0.2.1 with
        | false =>
          refine iteF ⟨o11, o12, kp11, kp12, kr11, accj, hD11, ?_⟩
          rw [htk, keepZ_snoc, hq1]
          simpa using ra11
        | true =>
          refine iteT ⟨(ρ3, _), q7e hq1, addO O Dn, ok8, fun v H9 dy ok9 k9 r9 q9 => ?_⟩
          subst q9
          obtain ⟨p1, p2, p3, p4, p5, p6, p7⟩ := back2 (k8.trans k9) ok9
          have hlen : accj.length < sizeLine := by
            have h2 := ra11.length
            rw [List.length_append] at h2
            have h4 : (keepZ ((zs x0).take j)).length ≤ j := by
              unfold keepZ
              rw [List.length_map]
              have := List.length_filter_le (·.2.1) ((zs x0).take j)
              rw [List.length_take] at this
              omega
            omega
          refine ⟨accj, p6, hlen, ?_⟩
          have kU : ∀ x o, x ≠ Dn → H9 x = some o → upd H9 Dn (.lst (accj ++ [v])) x = some o := fun x o n ea => by rw [upd_ne n]; exact ea
          have kK : Keep (addO O Dn) H9 (upd H9 Dn (.lst (accj ++ [v]))) := fun a o n ea => kU a o (fun z => n (.inr z)) ea
          refine ⟨p1.chgO (.inr rfl) nD22 n0 kU (by rw [upd_same]; exact fun z => nomatch z), p2.chgO (.inr rfl) nOw n0 kU (by rw [upd_same]; exact fun z => nomatch z), p3.trans kK, fun a o n ea => kU a o (hn1 a o ea) (p4 a o n ea), fun a o n ea => kU a o (hn1 a o ea) (p5 a o n ea), accj ++ [v], upd_same, ?_⟩
          rw [htk, keepZ_snoc, hq1, if_pos rfl, ← List.append_assoc]
          exact (p7.append (Reps.cons r9 Reps.nil)).keep kK
      · have e : j = its1.length := by omega
        subst e
        refine .inl ⟨W1.stop Hj kpj5, okj, kpj, krj, accj, hDj, ?_⟩
        rw [hBl, hq, if_pos rfl]
        rw [el1, List.take_length] at raj
        exact raj
  · have e : i = items.length := by omega
    subst e
    refine .inl ⟨W.stop H' kp', k Dn H' (.lst (Bl items.length)) (new_back ok1 k1 hD) ok' (k1.trans kr') ⟨acc, hDn, racc⟩ ?_⟩
    show R (.lst ((xs.take items.length).flatMap _))
    rw [elen, List.take_length]
    exact fin
theorem wn_lc2 {g : α → D} {q : α → Bool} {zs : α → List (D × Bool × D)} {xs : List α} (own : List (Str × Nat)) (vs1 : List Nat) (hi : WI X Γ ρ tg iter fun items => items = xs.map g) (turn : ∀ a ∈ xs, LcOut X Γ ρ scope (own.map (·.2)) vs1 tg tg1 iter1 ifs ifs1 elt (g a) (q a) (zs a))
    (hsz : (xs.map fun a => (zs a).length).sum ≤ sizeLine) (fin : R (.lst (xs.flatMap fun a => if q a then keepZ (zs a) else []))) (hN : X.N.Nodup) (hc : X.calm = true := by rfl) (ok : blkC X.N X.env.scope scope own = true := by kernel_rfl) (hv : ∀ i ∈ vs1, i ∈ own.map (·.2) := by decide)
    (hs : ∀ x, foldedSetIterable iter X.env x = pure x := by intro _; rfl) (hs1 : ∀ env x, foldedSetIterable iter1 env x = pure x := by intro _ _; rfl) : WN X Γ ρ (.ListComp elt [⟨tg, iter, ifs, 0⟩, ⟨tg1, iter1, ifs1, 0⟩] scope pos) R :=
  pe_mono (pe_lc2 (own := own) (vs1 := vs1) hc hN hi (blkOk_by ok) hv lcG_ok lcT_ok lcI_ok lcG_ok lcT_ok lcE_ok hs hs1) fun σ H Q q => lc2_read xs (fun _ z => z) (fun items z => z) turn hsz fin q
/-- x = [.. for .. for ..] -/
theorem ws_lc2 {g : α → D} {q : α → Bool} {zs : α → List (D × Bool × D)} {xs : List α} {px spos : Pos} (i : Nat) (own : List (Str × Nat)) (vs1 : List Nat) (hi : WI X Γ ρ tg iter fun items => items = xs.map g) (turn : ∀ a ∈ xs, LcOut X Γ ρ scope (own.map (·.2)) vs1 tg tg1 iter1 ifs ifs1 elt (g a) (q a) (zs a))
    (hsz : (xs.map fun a => (zs a).length).sum ≤ sizeLine) (fin : E.nx (ρ.set i (.dat (.lst (xs.flatMap fun a => if q a then keepZ (zs a) else []))))) (hN : X.N.Nodup) (hc : X.calm = true := by rfl) (hy : X.N[i]? = some x := by rfl) (hyl : X.env.scope.names.lookup x = some .local := by rfl)
    (hsw : swapsWith (.ListComp elt [⟨tg, iter, ifs, 0⟩, ⟨tg1, iter1, ifs1, 0⟩] scope pos) (some (.Name x px)) spos.line X.env = pure true := by exact sw_true rfl rfl rfl (by decide +kernel))
    (ok : blkC X.N X.env.scope scope own = true := by kernel_rfl) (hv : ∀ i ∈ vs1, i ∈ own.map (·.2) := by decide)
    (hs : ∀ x, foldedSetIterable iter X.env x = pure x := by intro _; rfl) (hs1 : ∀ env x, foldedSetIterable iter1 env x = pure x := by intro _ _; rfl) : WS X Γ ρ (.Assign [.Name x px] (.ListComp elt [⟨tg, iter, ifs, 0⟩, ⟨tg1, iter1, ifs1, 0⟩] scope pos) spos) E :=
  ps_mono (ps_setLc2 (own := own) (vs1 := vs1) hc hN hy hyl hsw hi (blkOk_by ok) hv lcG_ok lcT_ok lcI_ok lcG_ok lcT_ok lcE_ok hs hs1) fun D σ H ⟨O, ok', k, _⟩ => by
    refine lc2_read (R := fun d => E.nx (ρ.set i (.dat d))) xs (fun _ z => z) (fun items z => z) turn hsz fin ⟨O, ok', fun a H1 d hn ok1 k1 r1 q1 => ?_⟩
    have na : ¬ O a := fun z => ok'.dom a z hn
    have lt : ∀ x, O x → addO O a x := fun x z => .inl z
    have r2 : Rep Γ.K O H1 d (.ref a) := (r1.less lt).rep na
    have o2 : Ok Γ O ρ σ H1 := ok1.drop lt (fun i b P e => by
      obtain ⟨v, _, r⟩ := ok'.env.get e
      exact r.2.1) ok'.sup
    exact k _ _ H1 O q1 (o2.setD i r2) (Stp.of (k1.keep ok'))
end
end VL

set_option maxRecDepth 100000
set_option maxHeartbeats 4000000
namespace VL
open PySem PySem.Spec PyProof.Rows L2
section
variable {X : Cx} {Γ : Gm} {ρ : List Sl} {tg tg1 iter iter1 elt a b c c1 e : Expr} {ifs ifs1 : List Expr} {es rest : List Expr} {pos p : Pos} {x : Str} {E : De} {st : Stmt} {sts : List Stmt} {K : PySem.W.Frag} {scope : Scope} {α β γ : Type} {g : α → D} {eb : β → D} {ec : γ → D} {xs : List α} {ys : α → List β} {f : α → γ} {f2 : α → β → γ} {q1 : α → Bool} {q2 : α → β → Bool} {ρ2 : α → List Sl} {ρ3 : α → β → List Sl}
/-- one clause: as one's judgements have it -/
structure Lc1 (X : Cx) (Γ : Gm) (ρ : List Sl) (scope : Scope) (own : List (Str × Nat)) (tg iter : Expr) (ifs : List Expr) (elt : Expr) (xs : List α) (g : α → D) (q : α → Bool) (f : α → γ) (ec : γ → D) (ρ2 : α → List Sl) : Prop where
  hi : EvI X Γ ρ tg iter (xs.map g)
  hN : X.N.Nodup
  hsz : xs.length ≤ sizeLine
  ht : ∀ a ∈ xs, ∀ (s : Shared) (H : Hp) (C : Addr) (cl : List (Str × Addr)) (fp : List Addr), EvG (X.blk s H scope (compEnvC scope cl C X.env) fp) Γ (wipeS ρ (own.map (·.2))) tg (g a) (fun i => i ∈ own.map (·.2)) (ρ2 a)
  hq : ∀ a ∈ xs, ∀ (s : Shared) (H : Hp) (C : Addr) (cl : List (Str × Addr)) (fp : List Addr), WTs (X.blk s H scope (compEnvC scope cl C X.env) fp) Γ (ρ2 a) ifs fun b => b = q a
  he : ∀ a ∈ xs, q a = true → ∀ (s : Shared) (H : Hp) (C : Addr) (cl : List (Str × Addr)) (fp : List Addr), Ev (X.blk s H scope (compEnvC scope cl C X.env) fp) Γ (ρ2 a) elt (ec (f a))
theorem built_filter {xs : List α} {q : α → Bool} {f : α → γ} {ys : List D} (b : Built (fun a o => o = if q a then some (ec (f a)) else none) xs ys) : ys = ((xs.filter q).map f).map ec := by
  rw [Built.fmap b]
  clear b
  induction xs with
  | nil => rfl
  | cons x xs ih =>
    rw [List.filterMap_cons, List.filter_cons]
    cases q x with
    | true => simp [ih]
    | false => simp [ih]
theorem lc1_turns {own : List (Str × Nat)} {q : α → Bool} (h : Lc1 X Γ ρ scope own tg iter ifs elt xs g q f ec ρ2) : ∀ a ∈ xs, LcTurn X Γ ρ scope (own.map (·.2)) tg ifs elt (g a) (fun o => o = if q a then some (ec (f a)) else none) := fun a ha s H C cl fp =>
  (h.ht a ha s H C cl fp).wg fun s H C cl fp => pts_mono (h.hq a ha s H C cl fp) fun σ H Q ⟨O, ok, k⟩ => ⟨O, ok, fun b H' o1 k1 h1 => k b H' o1 k1 (by
    subst h1
    exact ⟨fun z => by rw [z]; rfl, fun z s H C cl fp => (h.he a ha z s H C cl fp).we (by rw [z]; rfl)⟩)⟩
/-- x = [.. for ..] -/
theorem wb_let1 {q : α → Bool} {px spos : Pos} (i : Nat) (own : List (Str × Nat)) (h : Lc1 X Γ ρ scope own tg iter ifs elt xs g q f ec ρ2) (k : WB X Γ (ρ.set i (.dat (eL ec ((xs.filter q).map f)))) sts E)
    (hc : X.calm = true := by rfl) (hy : X.N[i]? = some x := by rfl) (hyl : X.env.scope.names.lookup x = some .local := by rfl)
    (hsw : swapsWith (.ListComp elt [⟨tg, iter, ifs, 0⟩] scope pos) (some (.Name x px)) spos.line X.env = pure true := by exact sw_true rfl rfl rfl (by decide +kernel))
    (ok : blkC X.N X.env.scope scope own = true := by kernel_rfl) (hs : ∀ x, foldedSetIterable iter X.env x = pure x := by intro _; rfl) : WB X Γ ρ (.Assign [.Name x px] (.ListComp elt [⟨tg, iter, ifs, 0⟩] scope pos) spos :: sts) E :=
  wb_cons (ws_lc i own (h.hi.wi ⟨xs, rfl, h.hsz, lc1_turns h, fun ys b => by rw [built_filter b]; exact k⟩) h.hN hc hy hyl hsw ok hs)
/-- .. kept as one's own -/
theorem wb_let1O {q : α → Bool} {px spos : Pos} (i : Nat) (own : List (Str × Nat)) (h : Lc1 X Γ ρ scope own tg iter ifs elt xs g q f ec ρ2) (k : ∀ p, ¬ Γ.W0 p → WB X Γ (ρ.set i (.own p fun d => d = eL ec ((xs.filter q).map f))) sts E)
    (hc : X.calm = true := by rfl) (hy : X.N[i]? = some x := by rfl) (hyl : X.env.scope.names.lookup x = some .local := by rfl)
    (hsw : swapsWith (.ListComp elt [⟨tg, iter, ifs, 0⟩] scope pos) (some (.Name x px)) spos.line X.env = pure true := by exact sw_true rfl rfl rfl (by decide +kernel))
    (ok : blkC X.N X.env.scope scope own = true := by kernel_rfl) (hs : ∀ x, foldedSetIterable iter X.env x = pure x := by intro _; rfl) : WB X Γ ρ (.Assign [.Name x px] (.ListComp elt [⟨tg, iter, ifs, 0⟩] scope pos) spos :: sts) E :=
  wb_cons (ws_lcO i own (h.hi.wi ⟨xs, rfl, h.hsz, lc1_turns h, fun ys b p hp => by rw [built_filter b]; exact k p hp⟩) h.hN hc hy hyl hsw ok hs)
theorem evn_lc1 {q : α → Bool} (own : List (Str × Nat)) (h : Lc1 X Γ ρ scope own tg iter ifs elt xs g q f ec ρ2) (hc : X.calm = true := by rfl) (ok : blkC X.N X.env.scope scope own = true := by kernel_rfl) (hs : ∀ x, foldedSetIterable iter X.env x = pure x := by intro _; rfl) :
    EvN X Γ ρ (.ListComp elt [⟨tg, iter, ifs, 0⟩] scope pos) (eL ec ((xs.filter q).map f)) :=
  wn_lc own (h.hi.wi ⟨xs, rfl, h.hsz, lc1_turns h, fun ys b => by rw [built_filter b]⟩) h.hN hc ok hs
/-- two clauses -/
structure Lc2 (X : Cx) (Γ : Gm) (ρ : List Sl) (scope : Scope) (own : List (Str × Nat)) (vs1 : List Nat) (tg iter tg1 iter1 : Expr) (ifs1 : List Expr) (elt : Expr) (xs : List α) (g : α → D) (ys : α → List β) (eb : β → D) (q2 : α → β → Bool) (f2 : α → β → γ) (ec : γ → D) (ρ2 : α → List Sl) (ρ3 : α → β → List Sl) : Prop where
  hi : EvI X Γ ρ tg iter (xs.map g)
  hN : X.N.Nodup
  hsz : (xs.map fun a => (ys a).length).sum ≤ sizeLine
  ht : ∀ a ∈ xs, ∀ (s : Shared) (H : Hp) (C : Addr) (cl : List (Str × Addr)) (fp : List Addr), EvG (X.blk s H scope (compEnvC scope cl C X.env) fp) Γ (wipeS ρ (own.map (·.2))) tg (g a) (fun i => i ∈ own.map (·.2)) (ρ2 a)
  hi1 : ∀ a ∈ xs, ∀ (s : Shared) (H : Hp) (C : Addr) (cl : List (Str × Addr)) (fp : List Addr), EvI (X.blk s H scope (compEnvC scope cl C X.env) fp) Γ (ρ2 a) tg1 iter1 ((ys a).map eb)
  ht1 : ∀ a ∈ xs, ∀ b ∈ ys a, ∀ (s : Shared) (H : Hp) (C : Addr) (cl : List (Str × Addr)) (fp : List Addr), EvG (X.blk s H scope (compEnvC scope cl C X.env) fp) Γ (wipeS (ρ2 a) vs1) tg1 (eb b) (fun i => i ∈ vs1) (ρ3 a b)
  hq : ∀ a ∈ xs, ∀ b ∈ ys a, ∀ (s : Shared) (H : Hp) (C : Addr) (cl : List (Str × Addr)) (fp : List Addr), WTs (X.blk s H scope (compEnvC scope cl C X.env) fp) Γ (ρ3 a b) ifs1 fun k => k = q2 a b
  he : ∀ a ∈ xs, ∀ b ∈ ys a, q2 a b = true → ∀ (s : Shared) (H : Hp) (C : Addr) (cl : List (Str × Addr)) (fp : List Addr), Ev (X.blk s H scope (compEnvC scope cl C X.env) fp) Γ (ρ3 a b) elt (ec (f2 a b))
theorem lc2_outs {own : List (Str × Nat)} {vs1 : List Nat} (h : Lc2 X Γ ρ scope own vs1 tg iter tg1 iter1 ifs1 elt xs g ys eb q2 f2 ec ρ2 ρ3) : ∀ a ∈ xs, LcOut X Γ ρ scope (own.map (·.2)) vs1 tg tg1 iter1 [] ifs1 elt (g a) true ((ys a).map fun b => (eb b, q2 a b, ec (f2 a b))) := fun a ha s H C cl fp =>
  (h.ht a ha s H C cl fp).wg ⟨fun s H C cl fp => wts_nil rfl, fun _ => ⟨fun s H C cl fp => by
    have := h.hi1 a ha s H C cl fp
    rw [List.map_map]
    exact this, fun z hz s H C cl fp => by
    obtain ⟨b, hb, rfl⟩ := List.mem_map.mp hz
    exact (h.ht1 a ha b hb s H C cl fp).wg ⟨h.hq a ha b hb, fun z => h.he a ha b hb z⟩⟩⟩
theorem lc2_val : (xs.flatMap fun a => if true = true then keepZ ((ys a).map fun b => (eb b, q2 a b, ec (f2 a b))) else []) = (xs.flatMap fun a => ((ys a).filter (q2 a)).map (f2 a)).map ec := by
  rw [List.map_flatMap]
  congr 1
  funext a
  rw [if_pos rfl]
  unfold keepZ
  rw [List.filter_map, List.map_map, List.map_map]
  rfl
theorem lc2_sz {own : List (Str × Nat)} {vs1 : List Nat} (h : Lc2 X Γ ρ scope own vs1 tg iter tg1 iter1 ifs1 elt xs g ys eb q2 f2 ec ρ2 ρ3) : (xs.map fun a => ((ys a).map fun b => (eb b, q2 a b, ec (f2 a b))).length).sum ≤ sizeLine := by
  have := h.hsz
  simpa using this
theorem evn_lc2 (own : List (Str × Nat)) (vs1 : List Nat) (h : Lc2 X Γ ρ scope own vs1 tg iter tg1 iter1 ifs1 elt xs g ys eb q2 f2 ec ρ2 ρ3) (hc : X.calm = true := by rfl) (ok : blkC X.N X.env.scope scope own = true := by kernel_rfl) (hv : ∀ i ∈ vs1, i ∈ own.map (·.2) := by decide)
    (hs : ∀ x, foldedSetIterable iter X.env x = pure x := by intro _; rfl) (hs1 : ∀ env x, foldedSetIterable iter1 env x = pure x := by intro _ _; rfl) :
    EvN X Γ ρ (.ListComp elt [⟨tg, iter, [], 0⟩, ⟨tg1, iter1, ifs1, 0⟩] scope pos) (eL ec (xs.flatMap fun a => ((ys a).filter (q2 a)).map (f2 a))) :=
  wn_lc2 own vs1 h.hi (lc2_outs h) (lc2_sz h) (by rw [lc2_val]) h.hN hc ok hv hs hs1
theorem wb_let2 {px spos : Pos} (i : Nat) (own : List (Str × Nat)) (vs1 : List Nat) (h : Lc2 X Γ ρ scope own vs1 tg iter tg1 iter1 ifs1 elt xs g ys eb q2 f2 ec ρ2 ρ3) (k : WB X Γ (ρ.set i (.dat (eL ec (xs.flatMap fun a => ((ys a).filter (q2 a)).map (f2 a))))) sts E)
    (hc : X.calm = true := by rfl) (hy : X.N[i]? = some x := by rfl) (hyl : X.env.scope.names.lookup x = some .local := by rfl)
    (hsw : swapsWith (.ListComp elt [⟨tg, iter, [], 0⟩, ⟨tg1, iter1, ifs1, 0⟩] scope pos) (some (.Name x px)) spos.line X.env = pure true := by exact sw_true rfl rfl rfl (by decide +kernel))
    (ok : blkC X.N X.env.scope scope own = true := by kernel_rfl) (hv : ∀ i ∈ vs1, i ∈ own.map (·.2) := by decide)
    (hs : ∀ x, foldedSetIterable iter X.env x = pure x := by intro _; rfl) (hs1 : ∀ env x, foldedSetIterable iter1 env x = pure x := by intro _ _; rfl) : WB X Γ ρ (.Assign [.Name x px] (.ListComp elt [⟨tg, iter, [], 0⟩, ⟨tg1, iter1, ifs1, 0⟩] scope pos) spos :: sts) E :=
  wb_cons (ws_lc2 i own vs1 h.hi (lc2_outs h) (lc2_sz h) (by show WB X Γ _ sts E; rw [lc2_val]; exact k) h.hN hc hy hyl hsw ok hv hs hs1)
theorem wq_nil : WTs X Γ ρ [] fun b => b = true := wts_nil rfl
theorem wq_one {k : Bool} (h : EvT X Γ ρ c k) : WTs X Γ ρ [c] fun b => b = k := wts_one h
/-! without a test -/
theorem filt_true {l : List α} : l.filter (fun _ => true) = l := List.filter_eq_self.mpr fun _ _ => rfl
theorem evn_lc1M (own : List (Str × Nat)) (h : Lc1 X Γ ρ scope own tg iter [] elt xs g (fun _ => true) f ec ρ2) (hc : X.calm = true := by rfl) (ok : blkC X.N X.env.scope scope own = true := by kernel_rfl) (hs : ∀ x, foldedSetIterable iter X.env x = pure x := by intro _; rfl) :
    EvN X Γ ρ (.ListComp elt [⟨tg, iter, [], 0⟩] scope pos) (eL ec (xs.map f)) := by
  have := evn_lc1 (pos := pos) own h hc ok hs
  rw [filt_true] at this
  exact this
theorem wb_let1M {px spos : Pos} (i : Nat) (own : List (Str × Nat)) (h : Lc1 X Γ ρ scope own tg iter [] elt xs g (fun _ => true) f ec ρ2) (k : WB X Γ (ρ.set i (.dat (eL ec (xs.map f)))) sts E)
    (hc : X.calm = true := by rfl) (hy : X.N[i]? = some x := by rfl) (hyl : X.env.scope.names.lookup x = some .local := by rfl)
    (hsw : swapsWith (.ListComp elt [⟨tg, iter, [], 0⟩] scope pos) (some (.Name x px)) spos.line X.env = pure true := by exact sw_true rfl rfl rfl (by decide +kernel))
    (ok : blkC X.N X.env.scope scope own = true := by kernel_rfl) (hs : ∀ x, foldedSetIterable iter X.env x = pure x := by intro _; rfl) : WB X Γ ρ (.Assign [.Name x px] (.ListComp elt [⟨tg, iter, [], 0⟩] scope pos) spos :: sts) E :=
  wb_let1 i own h (by rw [filt_true]; exact k) hc hy hyl hsw ok hs
theorem wb_let1OM {px spos : Pos} (i : Nat) (own : List (Str × Nat)) (h : Lc1 X Γ ρ scope own tg iter [] elt xs g (fun _ => true) f ec ρ2) (k : ∀ p, ¬ Γ.W0 p → WB X Γ (ρ.set i (.own p fun d => d = eL ec (xs.map f))) sts E)
    (hc : X.calm = true := by rfl) (hy : X.N[i]? = some x := by rfl) (hyl : X.env.scope.names.lookup x = some .local := by rfl)
    (hsw : swapsWith (.ListComp elt [⟨tg, iter, [], 0⟩] scope pos) (some (.Name x px)) spos.line X.env = pure true := by exact sw_true rfl rfl rfl (by decide +kernel))
    (ok : blkC X.N X.env.scope scope own = true := by kernel_rfl) (hs : ∀ x, foldedSetIterable iter X.env x = pure x := by intro _; rfl) : WB X Γ ρ (.Assign [.Name x px] (.ListComp elt [⟨tg, iter, [], 0⟩] scope pos) spos :: sts) E :=
  wb_let1O i own h (fun p hp => by rw [filt_true]; exact k p hp) hc hy hyl hsw ok hs
theorem fl_true {ys : α → List β} {f2 : α → β → γ} : (xs.flatMap fun a => ((ys a).filter (fun _ => true)).map (f2 a)) = xs.flatMap fun a => (ys a).map (f2 a) := by
  congr 1
  funext a
  rw [filt_true]
theorem evn_lc2M (own : List (Str × Nat)) (vs1 : List Nat) (h : Lc2 X Γ ρ scope own vs1 tg iter tg1 iter1 [] elt xs g ys eb (fun _ _ => true) f2 ec ρ2 ρ3) (hc : X.calm = true := by rfl) (ok : blkC X.N X.env.scope scope own = true := by kernel_rfl) (hv : ∀ i ∈ vs1, i ∈ own.map (·.2) := by decide)
    (hs : ∀ x, foldedSetIterable iter X.env x = pure x := by intro _; rfl) (hs1 : ∀ env x, foldedSetIterable iter1 env x = pure x := by intro _ _; rfl) :
    EvN X Γ ρ (.ListComp elt [⟨tg, iter, [], 0⟩, ⟨tg1, iter1, [], 0⟩] scope pos) (eL ec (xs.flatMap fun a => (ys a).map (f2 a))) := by
  have := evn_lc2 (pos := pos) own vs1 h hc ok hv hs hs1
  rw [fl_true] at this
  exact this
theorem wb_let2M {px spos : Pos} (i : Nat) (own : List (Str × Nat)) (vs1 : List Nat) (h : Lc2 X Γ ρ scope own vs1 tg iter tg1 iter1 [] elt xs g ys eb (fun _ _ => true) f2 ec ρ2 ρ3) (k : WB X Γ (ρ.set i (.dat (eL ec (xs.flatMap fun a => (ys a).map (f2 a))))) sts E)
    (hc : X.calm = true := by rfl) (hy : X.N[i]? = some x := by rfl) (hyl : X.env.scope.names.lookup x = some .local := by rfl)
    (hsw : swapsWith (.ListComp elt [⟨tg, iter, [], 0⟩, ⟨tg1, iter1, [], 0⟩] scope pos) (some (.Name x px)) spos.line X.env = pure true := by exact sw_true rfl rfl rfl (by decide +kernel))
    (ok : blkC X.N X.env.scope scope own = true := by kernel_rfl) (hv : ∀ i ∈ vs1, i ∈ own.map (·.2) := by decide)
    (hs : ∀ x, foldedSetIterable iter X.env x = pure x := by intro _; rfl) (hs1 : ∀ env x, foldedSetIterable iter1 env x = pure x := by intro _ _; rfl) : WB X Γ ρ (.Assign [.Name x px] (.ListComp elt [⟨tg, iter, [], 0⟩, ⟨tg1, iter1, [], 0⟩] scope pos) spos :: sts) E :=
  wb_let2 i own vs1 h (by rw [fl_true]; exact k) hc hy hyl hsw ok hv hs hs1
end
end VL

set_option maxRecDepth 100000
set_option maxHeartbeats 4000000
namespace VL
open PySem PySem.Spec PyProof.Rows L2
section
variable {X : Cx} {Γ : Gm} {ρ : List Sl} {tg tg1 iter iter1 elt a b c c1 e : Expr} {ifs ifs1 : List Expr} {es rest : List Expr} {pos p : Pos} {x y : Str} {E : De} {st : Stmt} {sts : List Stmt} {K : PySem.W.Frag} {d d1 d2 : D} {ds : List D} {i j : Int} {α β γ : Type} {en : α → D}
theorem ev_ifT {k : Bool} {u w : α} (hc : EvT X Γ ρ c k) (ha : k = true → Ev X Γ ρ a (en u)) (hb : k = false → Ev X Γ ρ b (en w)) : Ev X Γ ρ (.IfExp c a b pos) (en (if k then u else w)) :=
  (ev_if hc ha hb).to (by cases k <;> rfl)
def absI (i : Int) : Int := if i < 0 then -i else i
theorem ev_int1 (hm : X.mg "int" = none) (h : Ev X Γ ρ e (iD i)) (hK : Γ.K = X.K := by rfl) (hg : Gl X "int" := by rfl) (hst : starEach [e] X.env = (false, eval e X.env) :: starEach [] X.env := by rfl) : Ev X Γ ρ (.Call (.Name "int" p) [e] [] pos) (iD i) :=
  ev_Ty call_int1 hm (ea_cons h ea_nil hst) (cd_int1 rfl) (by decide +kernel) hg (by decide) (by decide) hst
theorem ev_abs (hm : X.mg "abs" = none) (h : Ev X Γ ρ e (iD i)) (hK : Γ.K = X.K := by rfl) (hg : Gl X "abs" := by rfl) (hst : starEach [e] X.env = (false, eval e X.env) :: starEach [] X.env := by rfl) : Ev X Γ ρ (.Call (.Name "abs" p) [e] [] pos) (iD (absI i)) :=
  ev_B call_abs hm (ea_cons h ea_nil hst) (cd_abs rfl) (by decide +kernel) hg (by decide) (by decide) hst
theorem ev_max2 (hm : X.mg "max" = none) (h : Ev X Γ ρ e (iD i)) (h2 : Ev X Γ ρ a (iD j)) (hc : X.calm = true := by rfl) (hg : Gl X "max" := by rfl) (hst : starEach [e, a] X.env = (false, eval e X.env) :: starEach [a] X.env := by rfl) (hst2 : starEach [a] X.env = (false, eval a X.env) :: starEach [] X.env := by rfl)
    (hpl : (backTo pos (starEach [a] X.env)).any (·.1) = false := by rfl) : Ev X Γ ρ (.Call (.Name "max" p) [e, a] [] pos) (iD (max i j)) :=
  ev_B (call_max2 hc) hm (ea_cons h (ea_cons h2 ea_nil hst2) hst) (cd_max2 rfl) (by decide +kernel) hg (by decide) (by decide) hst hpl
theorem ev_min2 (hm : X.mg "min" = none) (h : Ev X Γ ρ e (iD i)) (h2 : Ev X Γ ρ a (iD j)) (hc : X.calm = true := by rfl) (hg : Gl X "min" := by rfl) (hst : starEach [e, a] X.env = (false, eval e X.env) :: starEach [a] X.env := by rfl) (hst2 : starEach [a] X.env = (false, eval a X.env) :: starEach [] X.env := by rfl)
    (hpl : (backTo pos (starEach [a] X.env)).any (·.1) = false := by rfl) : Ev X Γ ρ (.Call (.Name "min" p) [e, a] [] pos) (iD (min i j)) :=
  ev_B (call_min2 hc) hm (ea_cons h (ea_cons h2 ea_nil hst2) hst) (cd_min2 rfl) (by decide +kernel) hg (by decide) (by decide) hst hpl
/-! join, index -/
theorem reps_words {O : Own} {H : Hp} : ∀ {ws : List W} {vs : List V}, Reps K O H (ws.map eW) vs → vs = (ws.map SX.S).map V.str
  | [], vs, h => reps_nil.mp h
  | w :: ws, vs, h => by
    obtain ⟨u, us, e, h1, h2⟩ := reps_cons.mp h
    rw [e, rep_v.mp h1, reps_words h2]; rfl
theorem joinL_nil : ∀ (ws : List W), TL.joinL [] ws = ws.flatten
  | [] => rfl
  | [w] => by simp [TL.joinL]
  | w :: v :: ws => by
    have := joinL_nil (v :: ws)
    simp [TL.joinL, this]
theorem join_flat (ws : List W) : Txt.join (SX.S []) (ws.map SX.S) = SX.S ws.flatten := by
  rw [SX.join_S, joinL_nil]
theorem ev_joinW {ws : List W} {k : Nat} {pc : Pos} {z : Str} {apos cpos : Pos} (h : Ev X Γ ρ e (eL eW ws)) (hl : ws.flatten.length ≤ sizeLine) (hz : z = SX.S [] := by decide +kernel) (hK : Γ.K = X.K := by rfl)
    (hbase : attributeBase (.Constant (.str z) k pc) "join" X.env (eval (.Constant (.str z) k pc) X.env) = eval (.Constant (.str z) k pc) X.env := by rfl)
    (hfew : ((backTo cpos (starEach [e] X.env)).all (fun x => !x.1) && (backToKw cpos (keywordEach [] X.env)).all (fun x => x.1.isSome)
      && decide (([e] : List Expr).length + ([] : List Keyword).length + (if ([] : List Keyword).isEmpty then 0 else 1) < 30)) = true := by rfl)
    (hline : (apos.endLine == cpos.line) = true := by rfl) (hs : starEach [e] X.env = (false, eval e X.env) :: starEach [] X.env := by rfl) (hplain : (backTo cpos (starEach [] X.env)).any (·.1) = false := by rfl) :
    Ev X Γ ρ (.Call (.Attribute (.Constant (.str z) k pc) "join" apos) [e] [] cpos) (wD ws.flatten) := by
  refine ev_meth (z := z) PySem.F.slot_str_join PySem.F.type_str_join mt_join (PySem.F.plainAttrs_str) (we_str rfl) (ea_cons h ea_nil hs) (fun O H us Q hd r kk => ?_) hbase hfew hline hs hplain
  obtain ⟨u, rfl, h1⟩ := reps1 r
  obtain ⟨q, vs, rfl, s, rs⟩ := rep_lst.mp h1
  have e1 := reps_words rs
  subst e1
  refine ⟨z, q, ws.map SX.S, rfl, rfl, .inl (hK ▸ s.sq), ?_, ?_⟩
  · subst hz
    have e2 : (List.map (fun x => x.length) (ws.map SX.S)).sum = ws.flatten.length := by
      rw [List.length_flatten, List.map_map]
      congr 1
    rw [e2]
    have : (SX.S []).length = 0 := rfl
    rw [this]
    have : (sizeLine : Nat) = 16777216 := rfl
    omega
  · subst hz
    rw [join_flat]
    exact kk _ H (Ext.refl H) (rep_v.mpr rfl)
theorem flatten_single (l : List Nat) : (l.map fun c => [c]).flatten = l := by
  induction l with
  | nil => rfl
  | cons x l ih => simp [ih]
theorem ev_joinC {ws : List Nat} {k : Nat} {pc : Pos} {z : Str} {apos cpos : Pos} (h : Ev X Γ ρ e (eL eC ws)) (hl : ws.length ≤ sizeLine) (hz : z = SX.S [] := by decide +kernel) (hK : Γ.K = X.K := by rfl)
    (hbase : attributeBase (.Constant (.str z) k pc) "join" X.env (eval (.Constant (.str z) k pc) X.env) = eval (.Constant (.str z) k pc) X.env := by rfl)
    (hfew : ((backTo cpos (starEach [e] X.env)).all (fun x => !x.1) && (backToKw cpos (keywordEach [] X.env)).all (fun x => x.1.isSome)
      && decide (([e] : List Expr).length + ([] : List Keyword).length + (if ([] : List Keyword).isEmpty then 0 else 1) < 30)) = true := by rfl)
    (hline : (apos.endLine == cpos.line) = true := by rfl) (hs : starEach [e] X.env = (false, eval e X.env) :: starEach [] X.env := by rfl) (hplain : (backTo cpos (starEach [] X.env)).any (·.1) = false := by rfl) :
    Ev X Γ ρ (.Call (.Attribute (.Constant (.str z) k pc) "join" apos) [e] [] cpos) (wD ws) := by
  have e1 : eL eC ws = eL eW (ws.map fun c => [c]) := by show D.lst _ = D.lst _; rw [List.map_map]; rfl
  rw [e1] at h
  have := ev_joinW h (by rw [flatten_single]; exact hl) hz hK hbase hfew hline hs hplain
  rw [flatten_single] at this
  exact this
theorem ev_indexC {w : W} {ch n : Nat} {r : List Nat} {apos cpos : Pos} (ho : Ev X Γ ρ a (wD w)) (h : Ev X Γ ρ e (wD [ch])) (hocc : Builtin.Str.occurrences (SX.S w) (SX.S [ch]) 0 (SX.S w).length 1 = n :: r) (hK : Γ.K = X.K := by rfl)
    (hbase : attributeBase a "index" X.env (eval a X.env) = eval a X.env := by rfl)
    (hfew : ((backTo cpos (starEach [e] X.env)).all (fun x => !x.1) && (backToKw cpos (keywordEach [] X.env)).all (fun x => x.1.isSome)
      && decide (([e] : List Expr).length + ([] : List Keyword).length + (if ([] : List Keyword).isEmpty then 0 else 1) < 30)) = true := by rfl)
    (hline : (apos.endLine == cpos.line) = true := by rfl) (hs : starEach [e] X.env = (false, eval e X.env) :: starEach [] X.env := by rfl) (hplain : (backTo cpos (starEach [] X.env)).any (·.1) = false := by rfl) :
    Ev X Γ ρ (.Call (.Attribute a "index" apos) [e] [] cpos) (iD (n : Int)) := by
  refine ev_meth (z := SX.S w) PySem.F.slot_str_index PySem.F.type_str_index mt_sindex (PySem.F.plainAttrs_str) ho (ea_cons h ea_nil hs) (fun O H us Q hd rr kk => ?_) hbase hfew hline hs hplain
  obtain ⟨u, rfl, h1⟩ := reps1 rr
  exact ⟨_, SX.S [ch], n, r, rfl, by rw [rep_v.mp h1], hocc, kk _ H (Ext.refl H) (rep_v.mpr rfl)⟩
theorem occ_abc {c : Nat} (h : c ∈ [97, 98, 99]) : Builtin.Str.occurrences (SX.S [97, 98, 99]) (SX.S [c]) 0 (SX.S [97, 98, 99]).length 1 = (c - 97) :: [] := by
  simp only [List.mem_cons, List.not_mem_nil, or_false] at h
  rcases h with rfl | rfl | rfl <;> decide +kernel
/-! two at once -/
theorem wb_par (i j : Nat) {px py pt : Pos} {kt k2 : Nat} {pt2 : Pos} (ha : Ev X Γ ρ a d1) (hb : Ev X Γ ρ b d2) (k : WB X Γ ((ρ.set i (.dat d1)).set j (.dat d2)) sts E) (hN : X.N.Nodup) (hc : X.calm = true := by rfl) (hi : X.N[i]? = some x := by rfl) (hj : X.N[j]? = some y := by rfl) (hij : i ≠ j := by decide)
    (hx : X.env.scope.names.lookup x = some .local := by rfl) (hy : X.env.scope.names.lookup y = some .local := by rfl) (hst : starEach [a, b] X.env = (false, eval a X.env) :: starEach [b] X.env := by rfl) (hst2 : starEach [b] X.env = (false, eval b X.env) :: starEach [] X.env := by rfl)
    (hw : swappedStores [.Tuple [.Name x px, .Name y py] kt pt] (.Tuple [a, b] k2 pt2) X.env = pure (some [x, y]) := by rfl)
    (hs : swapsWithSole [.Tuple [.Name x px, .Name y py] kt pt] (.Tuple [a, b] k2 pt2) pos.line X.env = pure false := by rfl) : WB X Γ ρ (.Assign [.Tuple [.Name x px, .Name y py] kt pt] (.Tuple [a, b] k2 pt2) pos :: sts) E :=
  wb_cons (ps_mono (ps_par hc hN hi hj hij hx hy (ea_cons ha (ea_cons hb ea_nil hst2) hst) hw hs) fun D' σ H ⟨O, ok, kk, _⟩ => ⟨O, ok, fun vs H' ds ok' k' r' q => by
    subst q
    obtain ⟨u, w, rfl, r1, r2⟩ := reps2 r'
    exact ⟨u, w, rfl, kk _ _ H' O k ((ok'.setD i r1).setD j r2) (Stp.of (k'.keep ok))⟩⟩)
/-- target = e -/
theorem wb_asgT {ρ' : List Sl} (h : Ev X Γ ρ e d) (ht : EvG X Γ ρ tg d (fun _ => True) ρ') (k : WB X Γ ρ' sts E) (hs : swapsWith e (some tg) pos.line X.env = pure false := by rfl)
    (hp : ∀ {te : TE} {g : TG}, PE X e te → PG X tg g → PS X (.Assign [tg] e pos) (tAsg te g) := by intro te g h1 h2; exact ps_asg h1 h2) : WB X Γ ρ (.Assign [tg] e pos :: sts) E :=
  wb_cons (ws_asg (h.we (ht.wg k)) hs hp)
theorem evn_lstT {l : List α} (h : EvA X Γ ρ es (l.map en)) (hl : l.length ≤ 1000 := by (simp only [List.length_cons, List.length_nil]; omega)) : EvN X Γ ρ (.List es pos) (eL en l) :=
  evn_lst h (by rw [List.length_map]; exact Nat.le_trans hl (by decide))
/-! what has a kind -/
theorem ty_I {i : Int} : tyD (iD i) ≠ "" := (by decide : ("int" : String) ≠ "")
theorem ty_B {i : Bool} : tyD (bD i) ≠ "" := (by decide : ("bool" : String) ≠ "")
theorem ty_W {i : W} : tyD (wD i) ≠ "" := (by decide : ("str" : String) ≠ "")
theorem ty_N : tyD nD ≠ "" := (by decide : ("NoneType" : String) ≠ "")
theorem ty_T {l : List D} : tyD (.tup l) ≠ "" := (by decide : ("tuple" : String) ≠ "")
theorem ty_L {l : List D} : tyD (.lst l) ≠ "" := (by decide : ("list" : String) ≠ "")
theorem sl_le {n : Nat} (h : n ≤ 16777216) : n ≤ sizeLine := h
end
end VL

set_option maxRecDepth 100000
set_option maxHeartbeats 4000000
namespace VL
open PySem PySem.Spec PyProof.Rows L2
/-! ### words: bounds -/
theorem pow3_le {i n : Nat} (h : i ≤ n) : 3 ^ i ≤ 3 ^ n := Nat.pow_le_pow_right (by omega) h
theorem rng_at {lo size u : Int} {i : Nat} (h : (rngI lo size)[i]? = some u) (hs : size ≤ 8 + lo) : i < 8 := by
  have := (List.getElem?_eq_some_iff.mp h).1
  rw [rngI_length] at this
  omega
theorem cut3 (k : Int) : (cutL ([97, 98, 99] : W) none (some k)).length ≤ 3 := cutL_len _ _ _
theorem mem_longer {L : List Nat} {word w : W} (h : w ∈ L.map fun c => word ++ [c]) : w.length = word.length + 1 := by
  obtain ⟨c, _, rfl⟩ := List.mem_map.mp h
  simp
theorem flat_len {L : List Nat} (hL : L.length ≤ 3) : ∀ s : List W, (s.flatMap fun word => L.map fun c => word ++ [c]).length ≤ 3 * s.length
  | [] => by simp
  | x :: s => by
    have := flat_len hL s
    rw [List.flatMap_cons, List.length_append, List.length_map, List.length_cons]
    omega
theorem aw_step {L : List Nat} {s : List W} {i : Nat} (hL : L.length ≤ 3) (h : s.length ≤ 3 ^ i ∧ ∀ w ∈ s, w.length ≤ i) :
    (s.flatMap fun word => L.map fun c => word ++ [c]).length ≤ 3 ^ (i + 1) ∧ ∀ w ∈ (s.flatMap fun word => L.map fun c => word ++ [c]), w.length ≤ i + 1 := by
  refine ⟨?_, fun w hw => ?_⟩
  · have := flat_len hL s
    rw [Nat.pow_succ]
    omega
  · obtain ⟨x, hx, hw⟩ := List.mem_flatMap.mp hw
    have := h.2 x hx
    have := mem_longer hw
    omega
theorem sum_const {α : Type} (k : Nat) : ∀ s : List α, (s.map fun _ => k).sum = s.length * k
  | [] => by simp
  | x :: s => by rw [List.map_cons, List.sum_cons, sum_const k s, List.length_cons, Nat.succ_mul]; omega
theorem aw_sz {L : List Nat} {s : List W} {i : Nat} (hL : L.length ≤ 3) (hi : i < 8) (h : s.length ≤ 3 ^ i) : (s.map fun _ => L.length).sum ≤ sizeLine := by
  have h1 : (s.map fun _ => L.length).sum = s.length * L.length := sum_const _ s
  have h2 : 3 ^ i ≤ 3 ^ 8 := pow3_le (by omega)
  have h3 : s.length * L.length ≤ 3 ^ 8 * 3 := Nat.mul_le_mul (by omega) hL
  rw [h1]
  exact Nat.le_trans h3 (by decide)
theorem aw_len {w : W} {c : Nat} {i : Nat} (hi : i < 8) (h : w.length ≤ i) : w.length + [c].length ≤ sizeLine := sl_le (by simp; omega)
theorem aw_stepI {L : List Nat} {word : W} {i1 i0 : Nat} {s : List W} (hL : L.length ≤ 3) (hw : word.length ≤ i0) (h : s.length ≤ 3 * i1 ∧ ∀ w ∈ s, w.length ≤ i0 + 1) :
    (s ++ L.map fun c => word ++ [c]).length ≤ 3 * (i1 + 1) ∧ ∀ w ∈ (s ++ L.map fun c => word ++ [c]), w.length ≤ i0 + 1 := by
  refine ⟨by rw [List.length_append, List.length_map]; omega, fun w hw => ?_⟩
  rcases List.mem_append.mp hw with z | z
  · exact h.2 w z
  · have := mem_longer z
    omega
theorem fold_flat {f : W → List W} : ∀ (s : List W) (acc : List W), s.foldl (fun a w => a ++ f w) acc = acc ++ s.flatMap f
  | [], acc => by simp
  | x :: s, acc => by rw [List.foldl_cons, fold_flat s, List.flatMap_cons, List.append_assoc]
theorem aw_stepF {L : List Nat} {s : List W} {i : Nat} (hL : L.length ≤ 3) (h : s.length ≤ 3 ^ i ∧ ∀ w ∈ s, w.length ≤ i) :
    (s.foldl (fun a word => a ++ L.map fun c => word ++ [c]) []).length ≤ 3 ^ (i + 1) ∧ ∀ w ∈ (s.foldl (fun a word => a ++ L.map fun c => word ++ [c]) []), w.length ≤ i + 1 := by
  rw [fold_flat, List.nil_append]
  exact aw_step hL h
theorem aw_sz2 {L : List Nat} {s s1 : List W} {word : W} {i0 i1 : Nat} (hL : L.length ≤ 3) (hi : i0 < 8) (h : s.length ≤ 3 ^ i0) (ha : s[i1]? = some word) (h1 : s1.length ≤ 3 * i1) : s1.length + (L.map fun c => word ++ [c]).length ≤ sizeLine := by
  have := (List.getElem?_eq_some_iff.mp ha).1
  have h2 : 3 ^ i0 ≤ 3 ^ 8 := pow3_le (by omega)
  rw [List.length_map]
  exact sl_le (by omega)
theorem pos_ne {w : W} (h : (!decide (w = [])) = true) : (0 : Int) < w.length := by
  have : w ≠ [] := by simpa using h
  have := List.length_pos_iff.mpr this
  omega
theorem cut2 {w : W} {a b c d : Option Int} (h : w.length ≤ 4096) : (cutL w a b).length + (cutL w c d).length ≤ sizeLine := by
  have h1 := cutL_len w a b
  have h2 := cutL_len w c d
  exact sl_le (by omega)
theorem ix_mem {α : Type} [Inhabited α] {l : List α} {i : Int} (h : InR l i) : ix l i ∈ l := by
  obtain ⟨d, e⟩ := atI_in h
  have e2 := atI_ix h
  unfold L2.atI at e2
  cases q : L2.ixN l.length i with
  | none => rw [q] at e2; cases e2
  | some j => rw [q] at e2; exact List.mem_of_getElem? e2
theorem inR_zero {α : Type} {l : List α} (h : l ≠ []) : InR l 0 := by
  have := List.length_pos_iff.mpr h
  exact ⟨by omega, by omega⟩
theorem inr_map {α β : Type} {l : List α} {f : α → β} {k : Int} (h : InR l k) : InR (l.map f) k := by
  unfold InR at h ⊢
  rw [List.length_map]
  exact h
theorem inr_rng {α : Type} {l : List α} {k : Int} (h : k ∈ rngI 0 l.length) : InR l k := by
  have := mem_rngI.mp h
  exact ⟨by omega, by omega⟩
end VL

set_option maxRecDepth 100000
set_option maxHeartbeats 4000000
namespace VL
open PySem PySem.Spec PyProof.Rows L2
section
variable {X : Cx} {Γ : Gm} {ρ : List Sl} {tg tg1 iter iter1 elt a b c c1 e : Expr} {ifs ifs1 : List Expr} {es rest : List Expr} {pos p : Pos} {x y : Str} {E : De} {st : Stmt} {sts : List Stmt} {K : PySem.W.Frag} {d d1 d2 : D} {ds : List D} {i j : Int} {α β γ : Type} {en : α → D} {R : D → Prop}
/-! an own list: read, changed -/
theorem ev_ixO (n : Nat) {q : Addr} {l : List D} {k : Int} {py : Pos} (hρ : ρ[n]? = some (.own q fun d' => d' = .lst l)) (hb : Ev X Γ ρ b (iD k)) (hi : L2.atI l k = some d) (hK : Γ.K = X.K := by rfl) (hN : X.N[n]? = some y := by rfl) (hv : Vis X.env.scope y := by first | exact Or.inl rfl | exact Or.inr (Or.inl rfl) | exact Or.inr (Or.inr rfl))
    (hd2 : (y == ("__debug__" : Str)) = false := by decide) (hcd2 : (y == ("__classdict__" : Str)) = false := by decide) (hs : PlainIx b := by intro _ _; rfl) : Ev X Γ ρ (.Subscript (.Name y py) b pos) d :=
  we_ixO n hρ (hb.we ⟨k, d, rfl, hi, rfl⟩) hK hN hv hd2 hcd2 hs
theorem wb_setO (n : Nat) {q : Addr} {l : List D} {k : Int} {m : Nat} {py : Pos} (hρ : ρ[n]? = some (.own q fun d' => d' = .lst l)) (hv : Ev X Γ ρ e d) (hb : Ev X Γ ρ b (iD k)) (hm : L2.ixN l.length k = some m) (kk : WB X Γ (ρ.set n (.own q fun d' => d' = .lst (l.set m d))) sts E)
    (hN : X.N[n]? = some y := by rfl) (hvis : Vis X.env.scope y := by first | exact Or.inl rfl | exact Or.inr (Or.inl rfl) | exact Or.inr (Or.inr rfl)) (hd2 : (y == ("__debug__" : Str)) = false := by decide) (hcd2 : (y == ("__classdict__" : Str)) = false := by decide)
    (hs : swapsWith e (some (.Subscript (.Name y py) b p)) pos.line X.env = pure false := by rfl)
    (hp : ∀ {te : TE} {g : TG}, PE X e te → PG X (.Subscript (.Name y py) b p) g → PS X (.Assign [.Subscript (.Name y py) b p] e pos) (tAsg te g) := by intro te g h1 h2; exact ps_asg h1 h2)
    (hp2 : ∀ {to ti : TE}, PE X (.Name y py) to → PE X b ti → PG X (.Subscript (.Name y py) b p) (gSub to ti rSetL) := by intro to ti h1 h2; exact pg_sub h1 h2 set_list) : WB X Γ ρ (.Assign [.Subscript (.Name y py) b p] e pos :: sts) E :=
  wb_cons (ws_asg (hv.we (wg_subO n hρ (hb.we ⟨k, m, rfl, hm, kk⟩) trivial hN hvis hd2 hcd2 hp2)) hs hp)
theorem cd_divmod (h : R (.tup [iD (i / j), iD (i % j)])) (hc : CDiv i j) : ClD K (fun xs H Q => ∃ i j, xs = [.int i, .int j] ∧ CDiv i j ∧ ∀ p, H p = none → Q (.ref p) (upd H p (.tup [.int (i / j), .int (i % j)]))) [iD i, iD j] R := fun O H xs Q hd r k => by
  obtain ⟨u, w, rfl, r1, r2⟩ := reps2 r
  refine ⟨i, j, by rw [rep_v.mp r1, rep_v.mp r2], hc, fun q hq => k _ _ (.tup [iD (i / j), iD (i % j)]) (Ext.new hq) (rep_tup_new hd hq ?_) h⟩
  exact Reps.cons (rep_v.mpr rfl) (Reps.cons (rep_v.mpr rfl) Reps.nil)
theorem ev_divmod (hm : X.mg "divmod" = none) (h : Ev X Γ ρ e (iD i)) (h2 : Ev X Γ ρ a (iD j)) (hc : CDiv i j) (hg : Gl X "divmod" := by rfl) (hst : starEach [e, a] X.env = (false, eval e X.env) :: starEach [a] X.env := by rfl) (hst2 : starEach [a] X.env = (false, eval a X.env) :: starEach [] X.env := by rfl)
    (hpl : (backTo pos (starEach [a] X.env)).any (·.1) = false := by rfl) : Ev X Γ ρ (.Call (.Name "divmod" p) [e, a] [] pos) (.tup [iD (i / j), iD (i % j)]) :=
  ev_B call_divmod hm (ea_cons h (ea_cons h2 ea_nil hst2) hst) (cd_divmod rfl hc) (by decide +kernel) hg (by decide) (by decide) hst hpl
/-! with draws -/
theorem wb_parW (i j : Nat) {px py pt : Pos} {kt k2 : Nat} {pt2 : Pos} (h : WA X Γ ρ [a, b] fun ds => ∃ d1 d2, ds = [d1, d2] ∧ WB X Γ ((ρ.set i (.dat d1)).set j (.dat d2)) sts E) (hN : X.N.Nodup) (hc : X.calm = true := by rfl) (hi : X.N[i]? = some x := by rfl) (hj : X.N[j]? = some y := by rfl) (hij : i ≠ j := by decide)
    (hx : X.env.scope.names.lookup x = some .local := by rfl) (hy : X.env.scope.names.lookup y = some .local := by rfl)
    (hw : swappedStores [.Tuple [.Name x px, .Name y py] kt pt] (.Tuple [a, b] k2 pt2) X.env = pure (some [x, y]) := by rfl)
    (hs : swapsWithSole [.Tuple [.Name x px, .Name y py] kt pt] (.Tuple [a, b] k2 pt2) pos.line X.env = pure false := by rfl) : WB X Γ ρ (.Assign [.Tuple [.Name x px, .Name y py] kt pt] (.Tuple [a, b] k2 pt2) pos :: sts) E :=
  wb_cons (ps_mono (ps_mono (ps_par hc hN hi hj hij hx hy h hw hs) fun D' σ H q => q) fun D' σ H ⟨O, ok, kk, kb, kc, kr, ko⟩ => ⟨O, ok, fun vs H' ds ok' k' r' ⟨d1, d2, q, k⟩ => by
    subst q
    obtain ⟨u, w, rfl, r1, r2⟩ := reps2 r'
    exact ⟨u, w, rfl, kk _ _ H' O k ((ok'.setD i r1).setD j r2) (Stp.of (k'.keep ok))⟩⟩)
theorem we_joinC {k : Nat} {pc : Pos} {z : Str} {apos cpos : Pos} (h : WE X Γ ρ e fun d => ∃ l : List Nat, d = eL eC l ∧ l.length ≤ sizeLine ∧ R (wD l)) (hz : z = SX.S [] := by decide +kernel) (hK : Γ.K = X.K := by rfl)
    (hbase : attributeBase (.Constant (.str z) k pc) "join" X.env (eval (.Constant (.str z) k pc) X.env) = eval (.Constant (.str z) k pc) X.env := by rfl)
    (hfew : ((backTo cpos (starEach [e] X.env)).all (fun x => !x.1) && (backToKw cpos (keywordEach [] X.env)).all (fun x => x.1.isSome)
      && decide (([e] : List Expr).length + ([] : List Keyword).length + (if ([] : List Keyword).isEmpty then 0 else 1) < 30)) = true := by rfl)
    (hline : (apos.endLine == cpos.line) = true := by rfl) (hs : starEach [e] X.env = (false, eval e X.env) :: starEach [] X.env := by rfl) (hplain : (backTo cpos (starEach [] X.env)).any (·.1) = false := by rfl) :
    WE X Γ ρ (.Call (.Attribute (.Constant (.str z) k pc) "join" apos) [e] [] cpos) R :=
  pe_mono (pe_bm PySem.F.plainAttrs_str PySem.F.slot_str_join PySem.F.type_str_join mt_join (we_str (R := fun d => d = .v (.str z)) rfl) (wa_cons (Rs := fun ds => ∃ l : List Nat, ds = [eL eC l] ∧ l.length ≤ sizeLine ∧ R (wD l)) (we_imp h fun d ⟨l, e, q⟩ => wa_nil ⟨l, by rw [e], q⟩) hs) hbase hfew hline hs hplain) fun σ H Q ⟨O, ok, k⟩ => ⟨O, ok, fun v H' d' ok' k' r' q => by
    subst q
    obtain rfl := rep_v.mp r'
    refine ⟨rfl, O, ok', fun us H2 ds' ok2 k2 r2 q2 => ?_⟩
    obtain ⟨l, e, hl, hR⟩ := q2
    subst e
    obtain ⟨u, rfl, h1⟩ := reps1 r2
    obtain ⟨q, vs, rfl, s, rs⟩ := rep_lst.mp h1
    have e1 : l.map eC = (l.map fun c => [c]).map eW := by rw [List.map_map]; rfl
    rw [e1] at rs
    have e2 := reps_words rs
    subst e2
    have s2 := s.sq
    rw [hK] at s2
    refine ⟨z, q, (l.map fun c => [c]).map SX.S, rfl, rfl, .inl s2, ?_, ?_⟩
    · subst hz
      have e3 : (List.map (fun x => x.length) ((l.map fun c => [c]).map SX.S)).sum = l.length := by
        rw [List.map_map, List.map_map]
        have : (((fun x : Str => x.length) ∘ SX.S) ∘ fun c : Nat => [c]) = fun _ : Nat => 1 := rfl
        rw [this, sum_const, Nat.mul_one]
      rw [e3]
      have : (SX.S []).length = 0 := rfl
      rw [this]
      have : (sizeLine : Nat) = 16777216 := rfl
      omega
    · subst hz
      rw [join_flat, flatten_single]
      exact k _ H2 (wD l) ok2 (k'.trans k2) (rep_v.mpr rfl) hR⟩
/-- built of signs -/
theorem built_signs {P : α → Nat → Prop} {xs : List α} {ys : List D} (b : Built (fun a o => ∃ c : Nat, o = some (eC c) ∧ P a c) xs ys) : ∃ l : List Nat, ys = l.map eC ∧ l.length = xs.length ∧ ∀ c ∈ l, ∃ a, P a c := by
  induction b with
  | nil => exact ⟨[], rfl, rfl, fun _ h => absurd h List.not_mem_nil⟩
  | keep _ h ih =>
    obtain ⟨l, e, el, hl⟩ := ih
    obtain ⟨c, ec, hc⟩ := h
    cases ec
    refine ⟨l ++ [c], by rw [e, List.map_append]; rfl, by rw [List.length_append, List.length_append, el]; rfl, fun x hx => ?_⟩
    rcases List.mem_append.mp hx with z | z
    · exact hl x z
    · rw [List.mem_singleton.mp z]; exact ⟨_, hc⟩
  | drop _ h ih =>
    obtain ⟨c, ec, _⟩ := h
    cases ec
end
end VL

set_option maxRecDepth 100000
set_option maxHeartbeats 4000000
namespace VL
open PySem PySem.Spec PyProof.Rows L2
/-! ### draws -/
/-- three ints -/
def Pot (d : D) : Prop := ∃ a b c : Int, d = .lst [iD a, iD b, iD c]
def Dr (m : Int) (d : D) : Prop := ∃ k : Int, d = iD k ∧ 0 ≤ k ∧ k < m
theorem mod_dr {x m : Int} (h : 0 < m) : Dr m (iD (x % m)) := ⟨_, rfl, Int.emod_nonneg _ (by omega), Int.emod_lt_of_pos _ h⟩
section
variable {X : Cx} {Γ : Gm} {ρ : List Sl} {tg tg1 iter iter1 elt a b c c1 e : Expr} {ifs ifs1 : List Expr} {es rest : List Expr} {pos p : Pos} {x y : Str} {E : De} {st : Stmt} {sts : List Stmt} {K : PySem.W.Frag} {d d1 d2 : D} {ds : List D} {i j : Int} {α β γ : Type} {en : α → D} {R : D → Prop}
abbrev spDraw (K : PySem.W.Frag) : Sp := spP K Pot (fun m : Int => [iD m]) (fun m => 0 < m ∧ m < 1073741824) fun m d => Dr m d
abbrev spPick (K : PySem.W.Frag) : Sp := spP K Pot (fun l : List D => [.lst l]) (fun l => 0 < l.length ∧ l.length < 1073741824) fun l d => d ∈ l
/-- draw(pot, e) -/
theorem we_draw {ps : List Str} {k j : Nat} {m : Int} {py : Pos} (F : Fn X.prog X.w X.K X.mg X.base k x ps (spDraw X.K)) (n : Nat) {q : Addr} (hρ : ρ[n]? = some (.own q Pot)) (hr : Room j X.A) (hm : Ev X Γ ρ e (iD m)) (hb : 0 < m ∧ m < 1073741824) (kk : ∀ i, 0 ≤ i → i < m → R (iD i))
    (hk : k ≤ j := by decide) (hN : X.N[n]? = some y := by rfl) (hv : Vis X.env.scope y := by first | exact Or.inl rfl | exact Or.inr (Or.inl rfl) | exact Or.inr (Or.inr rfl)) (hK : Γ.K = X.K := by rfl) (hg : Gl X x := by rfl) (hdb : (x == ("__debug__" : Str)) = false := by decide)
    (hd2 : (y == ("__debug__" : Str)) = false := by decide) (hcd2 : (y == ("__classdict__" : Str)) = false := by decide)
    (he : starEach [.Name y py, e] X.env = (false, eval (.Name y py) X.env) :: starEach [e] X.env := by rfl) (he2 : starEach [e] X.env = (false, eval e X.env) :: starEach [] X.env := by rfl) (hpl : (backTo pos (starEach [e] X.env)).any (·.1) = false := by rfl) :
    WE X Γ ρ (.Call (.Name x p) [.Name y py, e] [] pos) R :=
  we_callP F n hρ hr (wa_cons (hm.we (wa_nil ⟨m, rfl, hb, fun d ⟨i, ed, h1, h2⟩ => by rw [ed]; exact kk i h1 h2⟩)) he2) hk hN hv hK hg hdb hd2 hcd2 he hpl
/-- draw(pot, e), e with draws -/
theorem we_drawW {ps : List Str} {k j : Nat} {py : Pos} (F : Fn X.prog X.w X.K X.mg X.base k x ps (spDraw X.K)) (n : Nat) {q : Addr} (hρ : ρ[n]? = some (.own q Pot)) (hr : Room j X.A) (hm : WE X Γ ρ e fun d => ∃ m, d = iD m ∧ (0 < m ∧ m < 1073741824) ∧ ∀ i, 0 ≤ i → i < m → R (iD i))
    (hk : k ≤ j := by decide) (hN : X.N[n]? = some y := by rfl) (hv : Vis X.env.scope y := by first | exact Or.inl rfl | exact Or.inr (Or.inl rfl) | exact Or.inr (Or.inr rfl)) (hK : Γ.K = X.K := by rfl) (hg : Gl X x := by rfl) (hdb : (x == ("__debug__" : Str)) = false := by decide)
    (hd2 : (y == ("__debug__" : Str)) = false := by decide) (hcd2 : (y == ("__classdict__" : Str)) = false := by decide)
    (he : starEach [.Name y py, e] X.env = (false, eval (.Name y py) X.env) :: starEach [e] X.env := by rfl) (he2 : starEach [e] X.env = (false, eval e X.env) :: starEach [] X.env := by rfl) (hpl : (backTo pos (starEach [e] X.env)).any (·.1) = false := by rfl) :
    WE X Γ ρ (.Call (.Name x p) [.Name y py, e] [] pos) R :=
  we_callP F n hρ hr (wa_cons (we_imp hm fun d ⟨m, em, hb, kk⟩ => wa_nil ⟨m, by rw [em], hb, fun d ⟨i, ed, h1, h2⟩ => by rw [ed]; exact kk i h1 h2⟩) he2) hk hN hv hK hg hdb hd2 hcd2 he hpl
/-- pick(pot, e) -/
theorem we_pick {ps : List Str} {k j : Nat} {l : List D} {py : Pos} (F : Fn X.prog X.w X.K X.mg X.base k x ps (spPick X.K)) (n : Nat) {q : Addr} (hρ : ρ[n]? = some (.own q Pot)) (hr : Room j X.A) (hm : Ev X Γ ρ e (.lst l)) (hb : 0 < l.length ∧ l.length < 1073741824) (kk : ∀ d ∈ l, R d)
    (hk : k ≤ j := by decide) (hN : X.N[n]? = some y := by rfl) (hv : Vis X.env.scope y := by first | exact Or.inl rfl | exact Or.inr (Or.inl rfl) | exact Or.inr (Or.inr rfl)) (hK : Γ.K = X.K := by rfl) (hg : Gl X x := by rfl) (hdb : (x == ("__debug__" : Str)) = false := by decide)
    (hd2 : (y == ("__debug__" : Str)) = false := by decide) (hcd2 : (y == ("__classdict__" : Str)) = false := by decide)
    (he : starEach [.Name y py, e] X.env = (false, eval (.Name y py) X.env) :: starEach [e] X.env := by rfl) (he2 : starEach [e] X.env = (false, eval e X.env) :: starEach [] X.env := by rfl) (hpl : (backTo pos (starEach [e] X.env)).any (·.1) = false := by rfl) :
    WE X Γ ρ (.Call (.Name x p) [.Name y py, e] [] pos) R :=
  we_callP F n hρ hr (wa_cons (hm.we (wa_nil ⟨l, rfl, hb, fun d hd => kk d hd⟩)) he2) hk hN hv hK hg hdb hd2 hcd2 he hpl
theorem we_addI (h : WE X Γ ρ a fun d => ∃ i, d = iD i ∧ WE X Γ ρ b fun d2 => ∃ j, d2 = iD j ∧ R (iD (i + j))) : WE X Γ ρ (.BinOp a .Add b pos) R :=
  we_op op_add (we_imp h fun d ⟨i, e1, h⟩ => we_imp h fun d2 ⟨j, e2, r⟩ => by rw [e1, e2]; exact od_I0 r)
theorem we_addW (h : WE X Γ ρ a fun d => ∃ u : W, d = wD u ∧ WE X Γ ρ b fun d2 => ∃ w : W, d2 = wD w ∧ u.length + w.length ≤ sizeLine ∧ R (wD (u ++ w))) : WE X Γ ρ (.BinOp a .Add b pos) R :=
  we_op op_add_str (we_imp h fun d ⟨i, e1, h⟩ => we_imp h fun d2 ⟨j, e2, hl, r⟩ => by rw [e1, e2]; exact od_addW hl r)
/-- text[draw] -/
theorem we_ixWd {w : W} (ha : Ev X Γ ρ a (wD w)) (hb : WE X Γ ρ b fun d => ∃ i, d = iD i ∧ InR w i ∧ ∀ c ∈ w, R (eC c)) (hz : w.length ≤ sizeLine) (hK : Γ.K = X.K := by rfl) (hs : PlainIx b := by intro _ _; rfl) : WE X Γ ρ (.Subscript a b pos) R :=
  we_ix ix_seq (ha.we (we_imp hb fun d ⟨i, e, hi, hR⟩ => by
    rw [e, hK]
    exact od_ixW hz (atI_ix hi) (hR _ (ix_mem hi)))) hs
/-- text[:draw] -/
theorem we_slWd {w : W} {hi : Expr} {p2 : Pos} (ha : Ev X Γ ρ a (wD w)) (hu : WE X Γ ρ hi fun d => ∃ i, d = iD i ∧ R (wD (cutL w none (some i)))) (hz : w.length ≤ sizeLine) (hK : Γ.K = X.K := by rfl) : WE X Γ ρ (.Subscript a (.Slice none (some hi) none p2) pos) R :=
  we_slice sl_A (ha.we (wo_none (wo_some (we_imp hu fun d ⟨i, e, r⟩ => ⟨i, e, hK ▸ sd_W hz r⟩))))
/-- target = e, with draws -/
theorem wb_letW (n : Nat) {px : Pos} (h : WE X Γ ρ e fun d => WB X Γ (ρ.set n (.dat d)) sts E) (hN : X.N.Nodup) (hi : X.N[n]? = some x := by rfl) (hx : Loc X.env.scope x := by first | exact Or.inl rfl | exact Or.inr rfl)
    (hf : X.fn x = true ∨ X.env.scope.names.lookup x = some .local := by first | exact .inl rfl | exact .inr rfl) (hs : swapsWith e (some (.Name x px)) pos.line X.env = pure false := by rfl)
    (hp : ∀ {te : TE} {g : TG}, PE X e te → PG X (.Name x px) g → PS X (.Assign [.Name x px] e pos) (tAsg te g) := by intro te g h1 h2; exact ps_asg h1 h2) : WB X Γ ρ (.Assign [.Name x px] e pos :: sts) E :=
  wb_cons (ws_asg (we_imp h fun d k => wg_name n k hN trivial hi hx hf) hs hp)
theorem wb_retC' (h : WE X Γ ρ e fun d => E.rt ρ d) : WB X Γ ρ (.Return (some e) pos :: sts) E := wb_cons (ws_ret h)
theorem still0 {q : Addr} {P Pt : D → Prop} {ρ : List Sl} (h : ∀ d, P d → Pt d) : Still q Pt (.own q P :: ρ) := ⟨0, P, rfl, h⟩
/-- two at once, one of them a cell -/
theorem wb_parTW (i j : Nat) {px py pt : Pos} {kt k2 : Nat} {pt2 : Pos} (h : WA X Γ ρ [a, b] fun ds => ∃ d1 d2, ds = [d1, d2] ∧ WB X Γ ((ρ.set i (.dat d1)).set j (.dat d2)) sts E) (hN : X.N.Nodup) (hi : X.N[i]? = some x := by rfl) (hj : X.N[j]? = some y := by rfl)
    (hx : Loc X.env.scope x := by first | exact Or.inl rfl | exact Or.inr rfl) (hf : X.fn x = true ∨ X.env.scope.names.lookup x = some .local := by first | exact .inl rfl | exact .inr rfl)
    (hy : Loc X.env.scope y := by first | exact Or.inl rfl | exact Or.inr rfl) (hfy : X.fn y = true ∨ X.env.scope.names.lookup y = some .local := by first | exact .inl rfl | exact .inr rfl) (hK : Γ.K = X.K := by rfl)
    (hm : List.map (fun x => x.snd) (assignEach [Expr.Name x px, .Name y py] X.env) = assign (.Name x px) X.env :: List.map (fun x => x.snd) (assignEach [.Name y py] X.env) := by rfl) (hm2 : List.map (fun x => x.snd) (assignEach [Expr.Name y py] X.env) = assign (.Name y py) X.env :: List.map (fun x => x.snd) (assignEach [] X.env) := by rfl)
    (hs : swapsWith (.Tuple [a, b] k2 pt2) (some (.Tuple [.Name x px, .Name y py] kt pt)) pos.line X.env = pure false := by rfl)
    (hp2 : ∀ {t : TGs}, PGs X [Expr.Name x px, .Name y py] t → PG X (.Tuple [.Name x px, .Name y py] kt pt) (gTup X.K 2 t) := by intro t h; exact pg_tup (by rfl) h)
    (hp : ∀ {te : TE} {g : TG}, PE X (.Tuple [a, b] k2 pt2) te → PG X (.Tuple [.Name x px, .Name y py] kt pt) g → PS X (.Assign [.Tuple [.Name x px, .Name y py] kt pt] (.Tuple [a, b] k2 pt2) pos) (tAsg te g) := by intro te g h1 h2; exact ps_asg h1 h2) :
    WB X Γ ρ (.Assign [.Tuple [.Name x px, .Name y py] kt pt] (.Tuple [a, b] k2 pt2) pos :: sts) E :=
  wb_cons (ws_asg (we_tup (wa_imp h fun ds ⟨d1, d2, e, k⟩ => ⟨by rw [e]; exact sl_le (by simp only [List.length_cons, List.length_nil]; omega), by
    subst e
    exact wg_tup (wgs_cons (wg_name i (wgs_cons (wg_name j (wgs_nil k) hN trivial hj hy hfy) hm2) hN trivial hi hx hf) hm) rfl hK hp2⟩)) hs hp)
theorem wb_parT (i j : Nat) {px py pt : Pos} {kt k2 : Nat} {pt2 : Pos} (ha : Ev X Γ ρ a d1) (hb : Ev X Γ ρ b d2) (k : WB X Γ ((ρ.set i (.dat d1)).set j (.dat d2)) sts E) (hN : X.N.Nodup) (hi : X.N[i]? = some x := by rfl) (hj : X.N[j]? = some y := by rfl)
    (hx : Loc X.env.scope x := by first | exact Or.inl rfl | exact Or.inr rfl) (hf : X.fn x = true ∨ X.env.scope.names.lookup x = some .local := by first | exact .inl rfl | exact .inr rfl)
    (hy : Loc X.env.scope y := by first | exact Or.inl rfl | exact Or.inr rfl) (hfy : X.fn y = true ∨ X.env.scope.names.lookup y = some .local := by first | exact .inl rfl | exact .inr rfl) (hK : Γ.K = X.K := by rfl)
    (hm : List.map (fun x => x.snd) (assignEach [Expr.Name x px, .Name y py] X.env) = assign (.Name x px) X.env :: List.map (fun x => x.snd) (assignEach [.Name y py] X.env) := by rfl) (hm2 : List.map (fun x => x.snd) (assignEach [Expr.Name y py] X.env) = assign (.Name y py) X.env :: List.map (fun x => x.snd) (assignEach [] X.env) := by rfl)
    (hs : swapsWith (.Tuple [a, b] k2 pt2) (some (.Tuple [.Name x px, .Name y py] kt pt)) pos.line X.env = pure false := by rfl)
    (hp2 : ∀ {t : TGs}, PGs X [Expr.Name x px, .Name y py] t → PG X (.Tuple [.Name x px, .Name y py] kt pt) (gTup X.K 2 t) := by intro t h; exact pg_tup (by rfl) h)
    (hp : ∀ {te : TE} {g : TG}, PE X (.Tuple [a, b] k2 pt2) te → PG X (.Tuple [.Name x px, .Name y py] kt pt) g → PS X (.Assign [.Tuple [.Name x px, .Name y py] kt pt] (.Tuple [a, b] k2 pt2) pos) (tAsg te g) := by intro te g h1 h2; exact ps_asg h1 h2)
    (hst : starEach [a, b] X.env = (false, eval a X.env) :: starEach [b] X.env := by rfl) (hst2 : starEach [b] X.env = (false, eval b X.env) :: starEach [] X.env := by rfl) : WB X Γ ρ (.Assign [.Tuple [.Name x px, .Name y py] kt pt] (.Tuple [a, b] k2 pt2) pos :: sts) E :=
  wb_parTW i j ((ea_cons ha (ea_cons hb ea_nil hst2) hst).wa ⟨_, _, rfl, k⟩) hN hi hj hx hf hy hfy hK hm hm2 hs hp2 hp
end
end VL

set_option maxRecDepth 100000
set_option maxHeartbeats 4000000
namespace VL
open PySem PySem.Spec PyProof.Rows L2
/-! ### equality of data, deep -/
/-- how data of a type compares -/
structure PyE {α : Type} [DecidableEq α] (en : α → D) (good : α → Prop) (n : Nat) where
  py : α → PyData
  to : ∀ a, toPy (en a) = some (py a)
  lay : ∀ a, good a → (py a).canLay0 = true
  dep : ∀ a, (py a).depth ≤ n
  eq : ∀ a b, PyData.eqv (py a) (py b) = decide (a = b)
def Gw (w : W) : Prop := ∀ c ∈ w, c < 1114112
def pyI : PyE eI (fun _ => True) 0 where
  py := .int
  to := fun _ => rfl
  lay := fun _ _ => by simp [PyData.canLay0]
  dep := fun _ => by simp [PyData.depth]
  eq := fun a b => by simp [PyData.eqv]; rfl
def pyB : PyE eB (fun _ => True) 0 where
  py := .bool
  to := fun _ => rfl
  lay := fun _ _ => by simp [PyData.canLay0]
  dep := fun _ => by simp [PyData.depth]
  eq := fun a b => by simp [PyData.eqv]; cases a <;> cases b <;> rfl
def pyN : PyE eN (fun _ => True) 0 where
  py := fun _ => .none
  to := fun _ => rfl
  lay := fun _ _ => by simp [PyData.canLay0]
  dep := fun _ => by simp [PyData.depth]
  eq := fun a b => by simp [PyData.eqv]
theorem S_inj {a b : W} : SX.S a = SX.S b ↔ a = b := ⟨fun h => by
  have : a.toArray = b.toArray := congrArg Str.cps h
  simpa using congrArg Array.toList this, fun h => by rw [h]⟩
def pyW : PyE eW Gw 0 where
  py := fun w => .str (SX.S w)
  to := fun _ => rfl
  lay := fun w h => by
    simp only [PyData.canLay0]
    show (w.toArray.all fun c => decide (c < 1114112)) = true
    rw [← Array.all_toList]
    exact List.all_eq_true.mpr fun c hc => decide_eq_true (h c (by simpa using hc))
  dep := fun _ => by simp [PyData.depth]
  eq := fun a b => by
    simp only [PyData.eqv]
    by_cases h : a = b
    · subst h; simp
    · have : SX.S a ≠ SX.S b := fun z => h (S_inj.mp z)
      simp [h, this]
section
variable {α β γ : Type} [DecidableEq α] [DecidableEq β] [DecidableEq γ] {en : α → D} {eb : β → D} {ec : γ → D} {ga : α → Prop} {gb : β → Prop} {gc : γ → Prop} {n m k : Nat}
theorem toPys_map (p : PyE en ga n) : ∀ l : List α, toPys (l.map en) = some (l.map p.py)
  | [] => rfl
  | a :: l => by
    show (toPy (en a)).bind _ = _
    rw [p.to]
    show (toPys (l.map en)).map _ = _
    rw [toPys_map p l]
    rfl
theorem lays_map (p : PyE en ga n) : ∀ l : List α, (∀ a ∈ l, ga a) → PyData.canLayAll0 (l.map p.py) = true
  | [], _ => by simp [PyData.canLayAll0]
  | a :: l, h => by
    rw [List.map_cons, PyData.canLayAll0, p.lay a (h a List.mem_cons_self), lays_map p l fun x hx => h x (List.mem_cons_of_mem _ hx)]
    rfl
theorem deps_map (p : PyE en ga n) : ∀ l : List α, PyData.depthAll (l.map p.py) ≤ n
  | [] => by simp [PyData.depthAll]
  | a :: l => by
    rw [List.map_cons, PyData.depthAll]
    have := p.dep a
    have := deps_map p l
    omega
theorem eqs_map (p : PyE en ga n) : ∀ l m : List α, PyData.eqvAll (l.map p.py) (m.map p.py) = decide (l = m)
  | [], [] => by simp [PyData.eqvAll]
  | [], b :: m => by simp [PyData.eqvAll]
  | a :: l, [] => by simp [PyData.eqvAll]
  | a :: l, b :: m => by
    rw [List.map_cons, List.map_cons, PyData.eqvAll, p.eq, eqs_map p l m]
    by_cases h1 : a = b <;> by_cases h2 : l = m <;> simp [h1, h2]
def pyL (p : PyE en ga n) : PyE (eL en) (fun l => ∀ a ∈ l, ga a) (n + 1) where
  py := fun l => .list (l.map p.py)
  to := fun l => by show (toPys (l.map en)).map _ = _; rw [toPys_map p l]; rfl
  lay := fun l h => by simp only [PyData.canLay0]; exact lays_map p l h
  dep := fun l => by simp only [PyData.depth]; have := deps_map p l; omega
  eq := fun l m => by simp only [PyData.eqv]; exact eqs_map p l m
def pyT (p : PyE en ga n) : PyE (eT en) (fun l => ∀ a ∈ l, ga a) (n + 1) where
  py := fun l => .tuple (l.map p.py)
  to := fun l => by show (toPys (l.map en)).map _ = _; rw [toPys_map p l]; rfl
  lay := fun l h => by simp only [PyData.canLay0]; exact lays_map p l h
  dep := fun l => by simp only [PyData.depth]; have := deps_map p l; omega
  eq := fun l m => by simp only [PyData.eqv]; exact eqs_map p l m
def pyP (p : PyE en ga n) (q : PyE eb gb m) : PyE (eP en eb) (fun x => ga x.1 ∧ gb x.2) (max n m + 1) where
  py := fun x => .tuple [p.py x.1, q.py x.2]
  to := fun x => by
    show (toPys [en x.1, eb x.2]).map _ = _
    simp only [toPys, p.to, q.to]
    rfl
  lay := fun x h => by simp only [PyData.canLay0, PyData.canLayAll0, p.lay _ h.1, q.lay _ h.2]; rfl
  dep := fun x => by
    simp only [PyData.depth, PyData.depthAll]
    have := p.dep x.1
    have := q.dep x.2
    omega
  eq := fun x y => by
    simp only [PyData.eqv, PyData.eqvAll, p.eq, q.eq]
    by_cases h1 : x.1 = y.1 <;> by_cases h2 : x.2 = y.2
    · have : x = y := Prod.ext h1 h2
      simp [this]
    all_goals
      have : x ≠ y := fun e => by rw [e] at h1 h2; simp at h1 h2
      simp [h1, h2, this]
def pyP3 (p : PyE en ga n) (q : PyE eb gb m) (r : PyE ec gc k) : PyE (eP3 en eb ec) (fun x => ga x.1 ∧ gb x.2.1 ∧ gc x.2.2) (max n (max m k) + 1) where
  py := fun x => .tuple [p.py x.1, q.py x.2.1, r.py x.2.2]
  to := fun x => by
    show (toPys [en x.1, eb x.2.1, ec x.2.2]).map _ = _
    simp only [toPys, p.to, q.to, r.to]
    rfl
  lay := fun x h => by simp only [PyData.canLay0, PyData.canLayAll0, p.lay _ h.1, q.lay _ h.2.1, r.lay _ h.2.2]; rfl
  dep := fun x => by
    simp only [PyData.depth, PyData.depthAll]
    have := p.dep x.1
    have := q.dep x.2.1
    have := r.dep x.2.2
    omega
  eq := fun x y => by
    simp only [PyData.eqv, PyData.eqvAll, p.eq, q.eq, r.eq]
    by_cases h1 : x.1 = y.1 <;> by_cases h2 : x.2.1 = y.2.1 <;> by_cases h3 : x.2.2 = y.2.2
    · have : x = y := Prod.ext h1 (Prod.ext h2 h3)
      simp [this]
    all_goals
      have : x ≠ y := fun e => by rw [e] at h1 h2 h3; simp at h1 h2 h3
      simp [h1, h2, h3, this]
theorem PyE.shaped (p : PyE en ga n) {a : α} (h : ga a) (hn : n ≤ 64 := by decide) : SeqAt.shaped (p.py a) = true := by
  unfold SeqAt.shaped
  rw [p.lay a h, Bool.true_and, decide_eq_true_iff]
  exact Nat.le_trans (p.dep a) hn
variable {X : Cx} {K : PySem.W.Frag}
theorem cp_eqT (p : PyE en ga n) (hu : X.A.units + 64 < cLine) {a b : α} (h1 : ga a) (h2 : ga b) (hn : n ≤ 64 := by decide) (hK : K = X.K := by rfl) : CpD K X .Eq (en a) (en b) (decide (a = b)) := by
  have := cp_eqD hu (p.to a) (p.to b) (p.shaped h1 hn) (p.shaped h2 hn) hK
  rw [p.eq] at this
  exact this
theorem cp_neT (p : PyE en ga n) (hu : X.A.units + 64 < cLine) {a b : α} (h1 : ga a) (h2 : ga b) (hn : n ≤ 64 := by decide) (hK : K = X.K := by rfl) : CpD K X .NotEq (en a) (en b) (!decide (a = b)) := by
  have := cp_neD hu (p.to a) (p.to b) (p.shaped h1 hn) (p.shaped h2 hn) hK
  rw [p.eq] at this
  exact this
end
end VL

set_option maxRecDepth 100000
set_option maxHeartbeats 4000000
namespace VL
open PySem PySem.Spec PyProof.Rows L2
/-! ### sums, powers, borders -/
theorem rng1 (n : Nat) : rngI 1 ((n : Int) + 1) = (List.range n).map fun (j : Nat) => 1 + (j : Int) := by
  unfold rngI
  rw [show ((n : Int) + 1 - 1).toNat = n from by omega]
theorem rng1' (n : Nat) : rngI 1 (n : Int) = (List.range (n - 1)).map fun (j : Nat) => 1 + (j : Int) := by
  unfold rngI
  rw [show ((n : Int) - 1).toNat = n - 1 from by omega]
theorem rng0 (n : Nat) : rngI 0 (n : Int) = (List.range n).map fun (j : Nat) => (j : Int) := by
  unfold rngI
  rw [show ((n : Int) - 0).toNat = n from by omega]
  apply List.map_congr_left
  intro j _
  omega
theorem foldl_pow (m : Int) : ∀ (l : List Int) (a : Int), l.foldl (fun s _ => s * m) a = a * m ^ l.length
  | [], a => by simp
  | x :: l, a => by rw [List.foldl_cons, foldl_pow m l, List.length_cons, Int.pow_succ, Int.mul_assoc, Int.mul_comm m]
theorem pow_rng (m : Int) (k : Int) : (rngI 0 k).foldl (fun s _ => s * m) 1 = m ^ k.toNat := by
  rw [foldl_pow, rngI_length, Int.one_mul, show k - 0 = k from by omega]
theorem sum_fil {α : Type} {p : α → Bool} {f : α → Int} : ∀ l : List α, ((l.filter p).map f).sum = (l.map fun x => if p x = true then f x else 0).sum
  | [] => rfl
  | x :: l => by
    rw [List.filter_cons, List.map_cons, List.sum_cons]
    by_cases h : p x = true
    · rw [if_pos h, if_pos h, List.map_cons, List.sum_cons, sum_fil l]
    · rw [if_neg h, if_neg h, sum_fil l, Int.zero_add]
theorem sum_mul {α : Type} {f : α → Int} (m : Int) : ∀ l : List α, m * (l.map f).sum = (l.map fun x => m * f x).sum
  | [] => by simp
  | x :: l => by rw [List.map_cons, List.sum_cons, Int.mul_add, sum_mul m l, List.map_cons, List.sum_cons]
theorem sum_nonneg {α : Type} {f : α → Int} : ∀ l : List α, (∀ x ∈ l, 0 ≤ f x) → 0 ≤ (l.map f).sum
  | [], _ => by simp
  | x :: l, h => by
    rw [List.map_cons, List.sum_cons]
    have := h x List.mem_cons_self
    have := sum_nonneg l fun y hy => h y (List.mem_cons_of_mem _ hy)
    omega
theorem sum_le {α : Type} {f g : α → Int} : ∀ l : List α, (∀ x ∈ l, f x ≤ g x) → (l.map f).sum ≤ (l.map g).sum
  | [], _ => by simp
  | x :: l, h => by
    rw [List.map_cons, List.sum_cons, List.map_cons, List.sum_cons]
    have := h x List.mem_cons_self
    have := sum_le l fun y hy => h y (List.mem_cons_of_mem _ hy)
    omega
theorem sum_dvd {α : Type} {f : α → Int} {m : Int} : ∀ l : List α, (∀ x ∈ l, m ∣ f x) → m ∣ (l.map f).sum
  | [], _ => by simp
  | x :: l, h => by
    rw [List.map_cons, List.sum_cons]
    exact Int.dvd_add (h x List.mem_cons_self) (sum_dvd l fun y hy => h y (List.mem_cons_of_mem _ hy))
theorem cut_suf {w : W} {j : Nat} (h : j < w.length) : cutL w (some ((w.length : Int) - (1 + (j : Int)))) none = w.drop (w.length - (j + 1)) := by
  rw [show (w.length : Int) - (1 + (j : Int)) = ((w.length - (j + 1) : Nat) : Int) from by omega, cutL_from]
theorem cut_pre {w : W} {j : Nat} : cutL w none (some (1 + (j : Int))) = w.take (j + 1) := by
  rw [show 1 + (j : Int) = ((j + 1 : Nat) : Int) from by omega, cutL_to]
/-- the letters' count to each border's size, the whole word's with them -/
def wSum (m : Int) (w : W) : Int := ((List.range w.length).map fun j => if w.drop (w.length - (j + 1)) = w.take (j + 1) then m ^ (j + 1) else 0).sum
theorem wSum_rev (m : Int) (w : W) : wSum m w.reverse = wSum m w := by
  unfold wSum
  rw [List.length_reverse]
  congr 1
  apply List.map_congr_left
  intro j hj
  have hj := List.mem_range.mp hj
  have e1 : w.reverse.drop (w.length - (j + 1)) = (w.take (j + 1)).reverse := by
    rw [List.drop_reverse]
    congr 1
    congr 1
    omega
  have e2 : w.reverse.take (j + 1) = (w.drop (w.length - (j + 1))).reverse := by
    rw [List.take_reverse]
  rw [e1, e2]
  by_cases h : w.drop (w.length - (j + 1)) = w.take (j + 1)
  · rw [if_pos h, if_pos (by rw [h])]
  · rw [if_neg h, if_neg fun z => h (List.reverse_inj.mp z).symm]
theorem map_inj_on {f : Nat → Nat} {P : Nat → Prop} (hf : ∀ a b, P a → P b → f a = f b → a = b) : ∀ {u v : W}, (∀ c ∈ u, P c) → (∀ c ∈ v, P c) → u.map f = v.map f → u = v
  | [], [], _, _, _ => rfl
  | [], b :: v, _, _, h => by simp at h
  | a :: u, [], _, _, h => by simp at h
  | a :: u, b :: v, hu, hv, h => by
    rw [List.map_cons, List.map_cons, List.cons.injEq] at h
    rw [hf a b (hu a List.mem_cons_self) (hv b List.mem_cons_self) h.1, map_inj_on hf (fun c hc => hu c (List.mem_cons_of_mem _ hc)) (fun c hc => hv c (List.mem_cons_of_mem _ hc)) h.2]
theorem wSum_map (m : Int) {f : Nat → Nat} {P : Nat → Prop} (hf : ∀ a b, P a → P b → f a = f b → a = b) {w : W} (hw : ∀ c ∈ w, P c) : wSum m (w.map f) = wSum m w := by
  unfold wSum
  rw [List.length_map]
  congr 1
  apply List.map_congr_left
  intro j _
  rw [← List.map_drop, ← List.map_take]
  by_cases h : w.drop (w.length - (j + 1)) = w.take (j + 1)
  · rw [if_pos h, if_pos (by rw [h])]
  · rw [if_neg h, if_neg fun z => h (map_inj_on hf (fun c hc => hw c (List.mem_of_mem_drop hc)) (fun c hc => hw c (List.mem_of_mem_take hc)) z)]
theorem wSum_dvd (m : Int) (w : W) : m ∣ wSum m w := sum_dvd _ fun j _ => by
  split
  · rw [Int.pow_succ]; exact Int.dvd_mul_left _ _
  · exact Int.dvd_zero _
theorem pow_pos' {m : Int} (h : 1 ≤ m) : ∀ k : Nat, 1 ≤ m ^ k
  | 0 => by simp
  | k + 1 => by
    have := pow_pos' h k
    rw [Int.pow_succ]
    have h2 : m ^ k * 1 ≤ m ^ k * m := Int.mul_le_mul_of_nonneg_left h (by omega)
    omega
theorem term_nonneg {m : Int} (h : 1 ≤ m) (p : Prop) [Decidable p] (k : Nat) : 0 ≤ if p then m ^ k else 0 := by
  split
  · have := pow_pos' h k; omega
  · omega
/-- a word's last term is its own -/
theorem wSum_last (m : Int) {w : W} (h : w ≠ []) : wSum m w = ((List.range (w.length - 1)).map fun j => if w.drop (w.length - (j + 1)) = w.take (j + 1) then m ^ (j + 1) else 0).sum + m ^ w.length := by
  have hl := List.length_pos_iff.mpr h
  unfold wSum
  obtain ⟨n, hn⟩ : ∃ n, w.length = n + 1 := ⟨w.length - 1, by omega⟩
  rw [hn, show n + 1 - 1 = n from rfl, List.range_succ, List.map_append, List.sum_append]
  congr 1
  simp only [List.map_cons, List.map_nil, List.sum_cons, List.sum_nil]
  rw [if_pos]
  · omega
  · rw [show n + 1 - (n + 1) = 0 from by omega, List.drop_zero, List.take_of_length_le (by omega)]
/-- a proper root's sum is less -/
theorem wSum_root {m : Int} (hm : 1 ≤ m) {w : W} {k : Nat} (hk : 0 < k) (hkn : k < w.length) (ht : w.drop k ++ w.take k = w) : wSum m (w.take k) < wSum m w := by
  have hne : w ≠ [] := fun e => by rw [e] at hkn; simp at hkn
  rw [wSum_last m hne]
  have hpos := pow_pos' hm w.length
  have key : wSum m (w.take k) ≤ ((List.range (w.length - 1)).map fun j => if w.drop (w.length - (j + 1)) = w.take (j + 1) then m ^ (j + 1) else 0).sum := by
    unfold wSum
    have hlen : (w.take k).length = k := by rw [List.length_take]; omega
    rw [hlen]
    have hsplit : (w.length - 1) = k + (w.length - 1 - k) := by omega
    rw [hsplit, List.range_add, List.map_append, List.sum_append]
    have h2 := sum_nonneg (f := fun j : Nat => if w.drop (w.length - (j + 1)) = w.take (j + 1) then m ^ (j + 1) else 0) (List.map (fun x => k + x) (List.range (w.length - 1 - k))) fun x _ => term_nonneg hm _ _
    have h1 : ((List.range k).map fun j => if (w.take k).drop (k - (j + 1)) = (w.take k).take (j + 1) then m ^ (j + 1) else 0).sum ≤ ((List.range k).map fun j => if w.drop (w.length - (j + 1)) = w.take (j + 1) then m ^ (j + 1) else 0).sum := by
      apply sum_le
      intro j hj
      have hj := List.mem_range.mp hj
      by_cases c : (w.take k).drop (k - (j + 1)) = (w.take k).take (j + 1)
      · rw [if_pos c, if_pos]
        · exact Int.le_refl _
        · have e1 : (w.take k).take (j + 1) = w.take (j + 1) := by rw [List.take_take, Nat.min_eq_left (by omega)]
          have e2 : w.drop (w.length - (j + 1)) = (w.take k).drop (k - (j + 1)) := by
            conv => lhs; rw [← ht]
            rw [List.drop_append]
            have hl : (w.drop k).length = w.length - k := List.length_drop
            have hl2 : (List.drop k w ++ List.take k w).length = w.length := by rw [ht]
            rw [hl2, List.drop_of_length_le (by rw [hl]; omega), List.nil_append, hl]
            congr 1
            omega
          rw [e2, c, e1]
      · rw [if_neg c]
        exact term_nonneg hm _ _
    omega
  omega
end VL

set_option maxRecDepth 100000
set_option maxHeartbeats 4000000
namespace VL
open PySem PySem.Spec PyProof.Rows L2
section
variable {X : Cx} {Γ : Gm} {ρ : List Sl} {tg tg1 iter iter1 elt a b c c1 e : Expr} {ifs ifs1 : List Expr} {es rest : List Expr} {pos p : Pos} {x y : Str} {E : De} {st : Stmt} {sts : List Stmt} {K : PySem.W.Frag} {d d1 d2 : D} {ds : List D} {i j : Int} {α β γ : Type} {en : α → D} {R : D → Prop} {xs : List α} {g : α → D}
/-- a loop that leaves the slots as they were -/
theorem wb_forP (r : List Sl) {body : List Stmt} (hi : EvI X Γ r tg e (xs.map g)) (f0 : Fg ρ r)
    (turn : ∀ a ∈ xs, WG X Γ r tg (g a) (fun _ => True) fun r2 => WB X Γ r2 body { nx := fun ρ3 => Fg ρ3 r, ct := fun ρ3 => Fg ρ3 r, bk := fun ρ3 => WB X Γ ρ3 sts E, rt := E.rt, ro := E.ro })
    (k : WB X Γ r sts E) (hp : PassesOwn (model X.prog X.w) X.A X.env X.xe := by exact PassesOwn.never) (hc : X.calm = true := by rfl) (hs : ∀ x, foldedSetIterable e X.env x = pure x := by intro _; rfl) : WB X Γ ρ (.For tg e body [] pos :: sts) E := by
  refine wb_cons (ws_forJ (β := Unit) (xs := xs) (g := g) (fun _ => r) (fun _ _ => True) () hi trivial f0 (fun i a s ha _ => ?_) (fun s _ => k) hp hc hs)
  exact wg_imp (turn a (List.mem_of_getElem? ha)) fun r2 h => pss_mono h fun D' σ H ⟨O, ok, k1, k2, k3, k4, k5⟩ => ⟨O, ok, fun ρ' σ' H' O' q ok' s2 => k1 ρ' σ' H' O' ⟨(), trivial, q⟩ ok' s2, k2, fun ρ' σ' H' O' q ok' s2 => k3 ρ' σ' H' O' ⟨(), trivial, q⟩ ok' s2, k4, k5⟩
/-- less is told of an own object -/
theorem wb_hide (n : Nat) {q : Addr} {P Pt : D → Prop} (hρ : ρ[n]? = some (.own q P)) (im : ∀ d, P d → Pt d) (h : WB X Γ (ρ.set n (.own q Pt)) sts E) : WB X Γ ρ sts E :=
  pss_mono h fun D' σ H ⟨O, ok, k⟩ => by
    obtain ⟨v, hv, ev, hO, d, hP, qd⟩ := ok.env.get hρ
    exact ⟨O, ok.chg (Q := Pt) (d := d) hρ (fun x o _ e => e) qd (im d hP), k⟩
/-- x = f(..), kept as one's own -/
theorem wb_own (n : Nat) {px : Pos} (h : EvN X Γ ρ e d) (k : ∀ q, ¬ Γ.W0 q → WB X Γ (ρ.set n (.own q fun d' => d' = d)) sts E) (hN : X.N.Nodup) (hi : X.N[n]? = some x := by rfl) (hx : Loc X.env.scope x := by first | exact Or.inl rfl | exact Or.inr rfl)
    (hp : ∀ {te : TE}, PE X e te → PS X (.Assign [.Name x px] e pos) (tAsg te (gName n)) := by intro te h1; exact ps_set (by assumption) (by rfl) (by first | exact Or.inl rfl | exact Or.inr rfl) h1) : WB X Γ ρ (.Assign [.Name x px] e pos :: sts) E :=
  wb_cons (ws_own n (h.wn fun q hq => k q hq) hN hi hx hp)
/-- the script as data -/
theorem rep_script {H : Hp} {p : Addr} {ns : List Int} (h : SqL K H p (ns.map V.int)) : Reps K (fun _ => False) H [eL eI ns] [.ref p] := by
  refine Reps.cons (rep_lst.mpr ⟨p, ns.map V.int, rfl, ?_, ?_⟩) Reps.nil
  · rcases h with h | h
    · exact .inl ⟨fun z => z, h⟩
    · exact .inr (.inr h)
  · have : ns.map eI = (ns.map V.int).map D.v := by rw [List.map_map]; rfl
    rw [this]
    exact reps_plain.mpr rfl
end
end VL

set_option maxRecDepth 100000
set_option maxHeartbeats 4000000
namespace VL
open PySem PySem.Spec PyProof.Rows L2
section
variable {X : Cx} {Γ : Gm} {ρ : List Sl} {tg a b c e : Expr} {es rest : List Expr} {pos p : Pos} {x y : Str} {K : PySem.W.Frag} {d d1 d2 : D} {i j : Int}
/-! ### words: less, least, greatest -/
theorem cp_ltW {u w : W} : CpD K X .Lt (wD u) (wD w) (decide (u < w)) := ⟨_, op_lt_str, fun R h => fun O H x y Q hd rx ry k => ⟨SX.S u, SX.S w, rep_v.mp rx, rep_v.mp ry, k _ H _ (Ext.refl H) (rep_v.mpr rfl) h⟩⟩
theorem CmpOf.words_lt {prog : Program} {w : World} {A : Around} {P : Nat → Value → Prop} (val : Nat → Str) (hval : ∀ i v, P i v → ∃ t, v = .str (val i) t) : CmpOf prog w A .Lt P (fun i j => decide ((val i).cps.toList < (val j).cps.toList)) := fun i j vi vj s Q E hi hj h => by
  obtain ⟨t, rfl⟩ := hval i vi hi
  obtain ⟨u, rfl⟩ := hval j vj hj
  exact richCompare_gives (op := .Lt) (typeIs_str s _ t) (typeIs_str s _ u) PySem.F.slot_str_lt PySem.F.entry_str_lt (PySem.F.args_str_lt_2 _ _) (gives_str_lt _ _ t u) (fun x => nomatch x) h
theorem CmpOf.words_gt {prog : Program} {w : World} {A : Around} {P : Nat → Value → Prop} (val : Nat → Str) (hval : ∀ i v, P i v → ∃ t, v = .str (val i) t) : CmpOf prog w A .Gt P (fun i j => decide ((val i).cps.toList > (val j).cps.toList)) := fun i j vi vj s Q E hi hj h => by
  obtain ⟨t, rfl⟩ := hval i vi hi
  obtain ⟨u, rfl⟩ := hval j vj hj
  exact richCompare_gives (op := .Gt) (typeIs_str s _ t) (typeIs_str s _ u) PySem.F.slot_str_gt PySem.F.entry_str_gt (PySem.F.args_str_gt_2 _ _) (gives_str_gt _ _ t u) (fun x => nomatch x) h
theorem argBest_le (bt : Nat → Nat → Bool) : ∀ k, argBest bt k ≤ k
  | 0 => Nat.le_refl _
  | k + 1 => by
    show (if bt (k + 1) (argBest bt k) then k + 1 else argBest bt k) ≤ k + 1
    split
    · exact Nat.le_refl _
    · exact Nat.le_succ_of_le (argBest_le bt k)
/-- nothing before is better, for a strict order -/
theorem argBest_best (lt : List Nat → List Nat → Prop) [∀ a b, Decidable (lt a b)] (irr : ∀ a, ¬ lt a a) (tr : ∀ a b c, lt a b → lt b c → lt a c) (val : Nat → List Nat) : ∀ k j, j ≤ k → ¬ lt (val j) (val (argBest (fun i j => decide (lt (val i) (val j))) k))
  | 0, j, h => by
    have : j = 0 := by omega
    subst this
    exact irr _
  | k + 1, j, h => by
    have ih := argBest_best lt irr tr val k
    show ¬ lt (val j) (val (if decide (lt (val (k + 1)) (val (argBest (fun i j => decide (lt (val i) (val j))) k))) = true then k + 1 else argBest (fun i j => decide (lt (val i) (val j))) k))
    by_cases c : lt (val (k + 1)) (val (argBest (fun i j => decide (lt (val i) (val j))) k))
    · rw [if_pos (decide_eq_true c)]
      by_cases e : j = k + 1
      · subst e; exact irr _
      · exact fun z => ih j (by omega) (tr _ _ _ z c)
    · rw [if_neg (by rw [decide_eq_false c]; exact Bool.false_ne_true)]
      by_cases e : j = k + 1
      · subst e; exact c
      · exact ih j (by omega)
theorem wlt_irr (a : W) : ¬ a < a := List.lt_irrefl a
theorem wlt_tr {a b c : W} : a < b → b < c → a < c := List.lt_trans
/-- the least, the greatest of some words -/
def minW : List W → W
  | [] => []
  | x :: xs => xs.foldl (fun a b => if b < a then b else a) x
def maxW : List W → W
  | [] => []
  | x :: xs => xs.foldl (fun a b => if a < b then b else a) x
def rExtS (K : PySem.W.Frag) (lt : W → W → Prop) : List V → Hp → VK → Prop := fun vs H Q => ∃ (a : Addr) (ws : List W), vs = [V.ref a] ∧ SqL K H a ((ws.map SX.S).map V.str) ∧ 0 < ws.length ∧ ∀ m, m ∈ ws → (∀ y, y ∈ ws → ¬ lt y m) → Q (.str (SX.S m)) H
theorem ext_words {its : List Value} {ws : List W} (rv : Vals ((ws.map SX.S).map V.str) its) {n : Nat} {v : Value} (h : its.toArray[n]? = some v) : ∃ t, v = .str (SX.S (ws.getD n [])) t ∧ n < ws.length := by
  have h : its[n]? = some v := by simpa using h
  have hn : n < its.length := (List.getElem?_eq_some_iff.mp h).1
  have hl := rv.length
  rw [List.length_map, List.length_map] at hl
  have hw : n < ws.length := by omega
  have key : ∀ {xs : List V} {us : List Value}, Vals xs us → ∀ (k : Nat) (u : Value), us[k]? = some u → ∃ x, xs[k]? = some x ∧ RelV x u := by
    intro xs us r
    induction r with
    | nil => intro k u e; simp at e
    | cons r1 rs ih =>
      intro k u e
      cases k with
      | zero => simp at e; subst e; exact ⟨_, rfl, r1⟩
      | succ k => exact ih k u (by simpa using e)
  obtain ⟨x, hx, r⟩ := key rv n v h
  rw [List.getElem?_map, List.getElem?_map, List.getElem?_eq_getElem hw] at hx
  cases hx
  obtain ⟨t, rfl⟩ := r
  refine ⟨t, ?_, hw⟩
  rw [List.getD_eq_getElem?_getD, List.getElem?_eq_getElem hw]
  rfl
theorem list_fp {s : Shared} {l : Addr} {its : Array Value} (hl : s.heap.IsList l its) : l ≠ s.heap.objs.size ∧ ∀ (o : Obj), ∀ b ∈ [s.heap.objs.size, l], b < (s.heap.push o).objs.size := by
  have hlt : l < s.heap.objs.size := by obtain ⟨_, e, _⟩ := hl; exact Heap.lt_size e
  refine ⟨Nat.ne_of_lt hlt, fun o b hb => ?_⟩
  rw [Heap.size_push]
  rcases List.mem_cons.mp hb with rfl | hb
  · exact Nat.lt_succ_self _
  · rcases List.mem_cons.mp hb with rfl | hb
    · exact Nat.lt_succ_of_lt hlt
    · cases hb
theorem cr_minS (hc : X.calm = true) : CallR X (.builtin "min") (rExtS X.K fun a b => a < b) := by
  intro pins s σ H vs us Q I r h
  obtain ⟨a, ws, rfl, hs, hne, q⟩ := h
  obtain ⟨its, rv, hl, _⟩ := I.list hs
  rw [Vals.ref1 r]
  have hlen := rv.length
  rw [List.length_map, List.length_map] at hlen
  obtain ⟨hne2, hfp⟩ := list_fp hl.isList
  refine call_min_walk (wpAny_pyIter_list hl.isList ⟨s.heap.objs.size, _, _, _, _, _, _, rfl, Walks.list (A := X.A.in1) (I.ok.hd hc) _ a hne2 its.toArray, ⟨⟨_, Heap.get?_push_size _ rfl, rfl, rfl⟩, hl.isList.push _⟩, hfp _, by rw [List.size_toArray]; omega,
    CmpOf.words_lt (fun i => SX.S (ws.getD i [])) (fun i v hv => (ext_words rv hv).elim fun t z => ⟨t, z.1⟩), fun v h' tk hP hk => ?_⟩)
  obtain ⟨t, rfl, hn⟩ := ext_words rv hP
  refine ⟨.str _, H, I.kept (t' := tk) (old_kept hk), ⟨t, rfl⟩, q _ ?_ fun y hy => ?_⟩
  · rw [List.getD_eq_getElem?_getD, List.getElem?_eq_getElem hn]; exact List.getElem_mem hn
  · obtain ⟨j, hj, rfl⟩ := List.getElem_of_mem hy
    have := argBest_best (fun a b => a < b) wlt_irr (fun a b c => wlt_tr) (fun i => ws.getD i []) (its.toArray.size - 1) j (by rw [List.size_toArray]; omega)
    rw [show ws[j] = ws.getD j [] from by rw [List.getD_eq_getElem?_getD, List.getElem?_eq_getElem hj]; rfl]
    exact this
theorem cr_maxS (hc : X.calm = true) : CallR X (.builtin "max") (rExtS X.K fun a b => b < a) := by
  intro pins s σ H vs us Q I r h
  obtain ⟨a, ws, rfl, hs, hne, q⟩ := h
  obtain ⟨its, rv, hl, _⟩ := I.list hs
  rw [Vals.ref1 r]
  have hlen := rv.length
  rw [List.length_map, List.length_map] at hlen
  obtain ⟨hne2, hfp⟩ := list_fp hl.isList
  refine call_max_walk (wpAny_pyIter_list hl.isList ⟨s.heap.objs.size, _, _, _, _, _, _, rfl, Walks.list (A := X.A.in1) (I.ok.hd hc) _ a hne2 its.toArray, ⟨⟨_, Heap.get?_push_size _ rfl, rfl, rfl⟩, hl.isList.push _⟩, hfp _, by rw [List.size_toArray]; omega,
    CmpOf.words_gt (fun i => SX.S (ws.getD i [])) (fun i v hv => (ext_words rv hv).elim fun t z => ⟨t, z.1⟩), fun v h' tk hP hk => ?_⟩)
  obtain ⟨t, rfl, hn⟩ := ext_words rv hP
  refine ⟨.str _, H, I.kept (t' := tk) (old_kept hk), ⟨t, rfl⟩, q _ ?_ fun y hy => ?_⟩
  · rw [List.getD_eq_getElem?_getD, List.getElem?_eq_getElem hn]; exact List.getElem_mem hn
  · obtain ⟨j, hj, rfl⟩ := List.getElem_of_mem hy
    have := argBest_best (fun a b => b < a) wlt_irr (fun a b c h1 h2 => wlt_tr h2 h1) (fun i => ws.getD i []) (its.toArray.size - 1) j (by rw [List.size_toArray]; omega)
    rw [show ws[j] = ws.getD j [] from by rw [List.getD_eq_getElem?_getD, List.getElem?_eq_getElem hj]; rfl]
    exact this
end
end VL

set_option maxRecDepth 100000
set_option maxHeartbeats 4000000
namespace VL
open PySem PySem.Spec PyProof.Rows L2
/-! ### dicts as lists of pairs -/
abbrev AL := List (Key × D)
def putD (m : AL) (k : Key) (d : D) : AL := if (m.any fun q => decide (q.1 = k)) = true then m.map (fun q => if q.1 = k then (q.1, d) else q) else m ++ [(k, d)]
def RelA (K : PySem.W.Frag) (O : Own) (H : Hp) (m : AL) (kvs : List (Key × V)) : Prop := kvs.map (·.1) = m.map (·.1) ∧ Reps K O H (m.map (·.2)) (kvs.map (·.2))
section
variable {K : PySem.W.Frag} {O : Own} {H : Hp} {m : AL} {kvs : List (Key × V)}
theorem RelA.nil : RelA K O H [] [] := ⟨rfl, Reps.nil⟩
theorem RelA.zip (h : RelA K O H m kvs) : zipK (m.map (·.1)) (kvs.map (·.2)) = kvs ∧ (m.map (·.1)).length = (kvs.map (·.2)).length := by
  have e := h.1
  clear h
  rw [← e]
  refine ⟨?_, by rw [List.length_map, List.length_map]⟩
  unfold zipK
  clear e
  induction kvs with
  | nil => rfl
  | cons q r ih => rw [List.map_cons, List.map_cons, List.zip_cons_cons, ih]
theorem RelA.any (h : RelA K O H m kvs) (k : Key) : (kvs.any fun q => decide (q.1 = k)) = m.any fun q => decide (q.1 = k) := by
  have e1 : (kvs.any fun q => decide (q.1 = k)) = (kvs.map (·.1)).any fun x => decide (x = k) := by rw [List.any_map]; rfl
  have e2 : (m.any fun q => decide (q.1 = k)) = (m.map (·.1)).any fun x => decide (x = k) := by rw [List.any_map]; rfl
  rw [e1, e2, h.1]
theorem RelA.rep {k : Key} {d : D} {v : V} (hv : Rep K O H d v) : ∀ {m : AL} {kvs : List (Key × V)}, RelA K O H m kvs → RelA K O H (m.map fun q => if q.1 = k then (q.1, d) else q) (kvs.map fun q => if q.1 = k then (q.1, v) else q)
  | [], [], h => RelA.nil
  | [], _ :: _, h => by have := h.1; simp at this
  | _ :: _, [], h => by have := h.1; simp at this
  | (k1, d1) :: m, (k2, v2) :: kvs, h => by
    have h1 := h.1
    rw [List.map_cons, List.map_cons, List.cons.injEq] at h1
    obtain ⟨e, h1⟩ := h1
    have e : k2 = k1 := e
    subst e
    obtain ⟨u, us, eu, r1, r2⟩ := reps_cons.mp h.2
    rw [List.map_cons, List.cons.injEq] at eu
    obtain ⟨eu1, eu2⟩ := eu
    have eu1 : v2 = u := eu1
    subst eu1 eu2
    obtain ⟨i1, i2⟩ := RelA.rep (k := k) hv (m := m) (kvs := kvs) ⟨h1, r2⟩
    by_cases c : k2 = k
    · subst c
      rw [List.map_cons, List.map_cons, if_pos rfl, if_pos rfl]
      exact ⟨by rw [List.map_cons, List.map_cons, i1], Reps.cons hv i2⟩
    · rw [List.map_cons, List.map_cons, if_neg c, if_neg c]
      exact ⟨by rw [List.map_cons, List.map_cons, i1], Reps.cons r1 i2⟩
theorem RelA.put {k : Key} {d : D} {v : V} (h : RelA K O H m kvs) (hv : Rep K O H d v) : RelA K O H (putD m k d) (putK kvs k v) := by
  unfold putD putK
  rw [h.any k]
  by_cases c : (m.any fun q => decide (q.1 = k)) = true
  · rw [if_pos c, if_pos c]
    exact h.rep hv
  · rw [if_neg c, if_neg c]
    refine ⟨by rw [List.map_append, List.map_append, h.1]; rfl, ?_⟩
    rw [List.map_append, List.map_append]
    exact h.2.append (Reps.cons hv Reps.nil)
theorem RelA.keep {H' : Hp} (h : RelA K O H m kvs) (k : Keep O H H') : RelA K O H' m kvs := ⟨h.1, h.2.keep k⟩
theorem RelA.len (h : RelA K O H m kvs) : kvs.length = m.length := by
  have := congrArg List.length h.1
  rw [List.length_map, List.length_map] at this
  exact this
theorem putD_len (m : AL) (k : Key) (d : D) : (putD m k d).length ≤ m.length + 1 := by
  unfold putD
  split
  · rw [List.length_map]; omega
  · rw [List.length_append]; exact Nat.le_refl _
end
section
variable {X : Cx} {Γ : Gm} {ρ : List Sl} {tg iter kx vx a b c e : Expr} {es rest : List Expr} {pos p : Pos} {x y : Str} {K : PySem.W.Frag} {d d1 d2 : D} {i j : Int} {R : D → Prop} {scope : Scope} {α β : Type} {E : De} {sts : List Stmt}
def DcTurn (X : Cx) (Γ : Gm) (ρ : List Sl) (scope : Scope) (vs : List Nat) (tg kx vx : Expr) (d : D) (k : Key) (dv : D) : Prop :=
  ∀ (s : Shared) (H : Hp) (C : Addr) (cl : List (Str × Addr)) (fp : List Addr), WG (X.blk s H scope (compEnvC scope cl C X.env) fp) Γ (wipeS ρ vs) tg d (fun i => i ∈ vs) fun ρ2 =>
  (∀ (s : Shared) (H : Hp) (C : Addr) (cl : List (Str × Addr)) (fp : List Addr), WE (X.blk s H scope (compEnvC scope cl C X.env) fp) Γ ρ2 kx fun z => z = .v (kV k)) ∧
  ∀ (s : Shared) (H : Hp) (C : Addr) (cl : List (Str × Addr)) (fp : List Addr), WE (X.blk s H scope (compEnvC scope cl C X.env) fp) Γ ρ2 vx fun z => z = dv
theorem dc_read {g : α → D} {vs : List Nat} {wi : TI} {σ : L2.St} {H : Hp} {Q : VK} {R' : List D → Prop} (xs : List α) (kf : α → Key) (vf : α → D) (hwi : ∀ RR, tI Γ ρ R' σ H RR → wi σ H RR) (h : ∀ items, R' items → items = xs.map g)
    (turn : ∀ a ∈ xs, DcTurn X Γ ρ scope vs tg kx vx (g a) (kf a) (vf a)) (hsz : xs.length < sizeLine) (fin : R (.dK ((xs.foldl (fun m a => putD m (kf a) (vf a)) []).map (·.1)) ((xs.foldl (fun m a => putD m (kf a) (vf a)) []).map (·.2))))
    (q : tN Γ ρ R σ H Q) : tDc wi (LcG X Γ scope vs tg) (LcT X Γ scope []) (LcE X Γ scope kx) (LcE X Γ scope vx) vs σ H Q := by
  obtain ⟨O, ok, k⟩ := q
  refine hwi _ ⟨O, ok, fun J H1 items ok1 k1 W hR => ?_⟩
  have eit := h items hR
  have elen : items.length = xs.length := by rw [eit, List.length_map]
  intro Dn hD
  obtain ⟨nO, nW, n0⟩ := ok1.fresh hD
  have nOw : ¬ Owns ρ Dn := fun ⟨i, P, z⟩ => by
    obtain ⟨v, _, r⟩ := ok1.env.get z
    exact nO r.2.1
  let M : Nat → AL := fun i => (xs.take i).foldl (fun m a => putD m (kf a) (vf a)) []
  have hML : ∀ i, (M i).length ≤ i := by
    have key : ∀ (l : List α) (m : AL), (l.foldl (fun m a => putD m (kf a) (vf a)) m).length ≤ m.length + l.length := by
      intro l
      induction l with
      | nil => intro m; exact Nat.le_refl _
      | cons a l ih => intro m; have h1 := ih (putD m (kf a) (vf a)); have h2 := putD_len m (kf a) (vf a); rw [List.foldl_cons, List.length_cons]; omega
    intro i
    have := key (xs.take i) []
    rw [List.length_take, List.length_nil] at this
    show ((xs.take i).foldl (fun (m : AL) a => putD m (kf a) (vf a)) []).length ≤ i
    omega
  refine ⟨fun i m H' => m = items.length - i ∧ i ≤ items.length ∧ Ok Γ (addO O Dn) ρ σ H' ∧ Keep O H1 H' ∧ KR ρ H1 H' ∧ ∃ kvs, H' Dn = some (.dK kvs) ∧ RelA Γ.K (addO O Dn) H' (M i) kvs,
    ⟨items.length, by simp, Nat.zero_le _, ok1.new hD, (Ext.new hD).keep, (Ext.new hD).kr, [], upd_same, RelA.nil⟩, ?_⟩
  rintro i m H' ⟨rfl, hi, ok', kp', kr', kvs, hDn, rel⟩
  by_cases hlt : i < items.length
  · refine .inr ⟨W.go H' kp' i hlt, fun H2 => Ok Γ (addO O Dn) ρ σ H2 ∧ Keep O H1 H2 ∧ KR ρ H1 H2 ∧ ∃ kvs, H2 Dn = some (.dK kvs) ∧ RelA Γ.K (addO O Dn) H2 (M (i + 1)) kvs, fun H2 z => ⟨items.length - (i + 1), by omega, rfl, hlt, z⟩, fun x H3 y => ?_⟩
    obtain ⟨e3, d, hd, r3⟩ := W.yld H' kp' i x H3 hlt y
    have ok3 := ok'.ext e3
    obtain ⟨x0, hx0, ex0⟩ : ∃ x0, xs[i]? = some x0 ∧ g x0 = d := by
      rw [eit, List.getElem?_map] at hd
      cases q : xs[i]? with
      | none => rw [q] at hd; cases hd
      | some z => rw [q] at hd; exact ⟨z, rfl, Option.some.inj hd⟩
    subst ex0
    have hmem : x0 ∈ xs := List.mem_of_getElem? hx0
    have oO : ∀ a, addO O Dn a → O a ∨ H1 a = none := fun a z => z.elim .inl fun e => .inr (e ▸ hD)
    have okw := ok3.wipe vs
    have hM : M (i + 1) = putD (M i) (kf x0) (vf x0) := by
      show (xs.take (i + 1)).foldl _ _ = _
      rw [take_snoc hx0, List.foldl_append]; rfl
    refine ⟨(g x0, wipeS ρ vs, _), turn x0 hmem, addO O Dn, okw, r3 _ oO ok'.dom, fun ρ2 σ2 H2 ok2 s2 k2 f2 q2 => ⟨?_, ?_⟩⟩
    · rw [wipe_off f2.st]; exact wipe_wipe vs σ
    obtain ⟨qk, qv⟩ := q2
    have nD2 : ¬ Owns (wipeS ρ vs) Dn := fun z => nOw (owns_wipe z)
    have back : ∀ {H4 : Hp}, KR ρ2 H2 H4 → Ok Γ (addO O Dn) ρ2 σ2 H4 → Ok Γ (addO O Dn) ρ σ H4 ∧ Keep O H1 H4 ∧ KR ρ H1 H4 ∧ H4 Dn = some (.dK kvs) ∧ RelA Γ.K (addO O Dn) H4 (M i) kvs := by
      intro H4 k4 o4
      have kw : KR (wipeS ρ vs) H3 H4 := k2.trans (k4.sub s2)
      obtain ⟨o5, k5⟩ := ok3.unblock o4 f2 kw
      have e3k : KR ρ H' H4 := (Ext.kr e3).trans k5
      refine ⟨o5, fun a o n ea => ?_, kr'.trans e3k, kw Dn _ nD2 (e3 _ _ hDn), rel.keep (e3k.keep ok')⟩
      have na : ¬ Owns ρ a := fun ⟨j, P, z⟩ => by
        obtain ⟨v, _, r⟩ := ok1.env.get z
        exact n r.2.1
      exact e3k a o na (kp' a o n ea)
    refine ⟨(ρ2, fun b => b = true), fun s H C cl fp => wts_nil rfl, addO O Dn, ok2, fun b H4 ok4 k4 q4 => ?_⟩
    subst q4
    refine iteT ⟨(ρ2, _), qk, addO O Dn, ok4, fun yk H5 dk ok5 k5 r5 q5 => ⟨(ρ2, _), qv, addO O Dn, ok5, fun yv H6 dy ok6 k6 r6 q6 => ?_⟩⟩
    subst q5 q6
    obtain ⟨o6, kp6, kr6, hD6, ra6⟩ := back ((k4.trans k5).trans k6) ok6
    have hlen : kvs.length ≤ i := by rw [ra6.len]; exact hML i
    refine ⟨kvs, kf x0, rep_v.mp r5, hD6, by omega, ?_⟩
    have kU : ∀ x o, x ≠ Dn → H6 x = some o → upd H6 Dn (.dK (putK kvs (kf x0) yv)) x = some o := fun x o n ea => by rw [upd_ne n]; exact ea
    have kK : Keep (addO O Dn) H6 (upd H6 Dn (.dK (putK kvs (kf x0) yv))) := fun a o n ea => kU a o (fun z => n (.inr z)) ea
    have hn1 : ∀ a o, H1 a = some o → a ≠ Dn := fun a o ea z => by rw [z, hD] at ea; cases ea
    refine ⟨o6.chgO (.inr rfl) nOw n0 kU (by rw [upd_same]; exact fun z => nomatch z), fun a o n ea => kU a o (hn1 a o ea) (kp6 a o n ea), fun a o n ea => kU a o (hn1 a o ea) (kr6 a o n ea), putK kvs (kf x0) yv, upd_same, ?_⟩
    rw [hM]
    exact (ra6.put r6).keep kK
  · have e : i = items.length := by omega
    subst e
    obtain ⟨z1, z2⟩ := rel.zip
    have e5 : M items.length = xs.foldl (fun m a => putD m (kf a) (vf a)) [] := by
      show (xs.take items.length).foldl _ _ = _
      rw [elen, List.take_length]
    refine .inl ⟨W.stop H' kp', k Dn H' _ (new_back ok1 k1 hD) ok' (k1.trans kr') ?_ fin⟩
    rw [← e5]
    exact ⟨kvs.map (·.2), by rw [z1]; exact hDn, z2, rel.2⟩
/-- {kx: vx for tg in iter} -/
theorem evn_dc {g : α → D} {xs : List α} {kf : α → Key} {vf : α → D} {ρ2 : α → List Sl} (own : List (Str × Nat)) (hi : EvI X Γ ρ tg iter (xs.map g)) (hN : X.N.Nodup) (hsz : xs.length < sizeLine)
    (ht : ∀ a ∈ xs, ∀ (s : Shared) (H : Hp) (C : Addr) (cl : List (Str × Addr)) (fp : List Addr), EvG (X.blk s H scope (compEnvC scope cl C X.env) fp) Γ (wipeS ρ (own.map (·.2))) tg (g a) (fun i => i ∈ own.map (·.2)) (ρ2 a))
    (hk : ∀ a ∈ xs, ∀ (s : Shared) (H : Hp) (C : Addr) (cl : List (Str × Addr)) (fp : List Addr), Ev (X.blk s H scope (compEnvC scope cl C X.env) fp) Γ (ρ2 a) kx (.v (kV (kf a))))
    (hv : ∀ a ∈ xs, ∀ (s : Shared) (H : Hp) (C : Addr) (cl : List (Str × Addr)) (fp : List Addr), Ev (X.blk s H scope (compEnvC scope cl C X.env) fp) Γ (ρ2 a) vx (vf a))
    (hc : X.calm = true := by rfl) (ok : blkC X.N X.env.scope scope own = true := by kernel_rfl) (hs : ∀ x, foldedSetIterable iter X.env x = pure x := by intro _; rfl) :
    EvN X Γ ρ (.DictComp kx vx [⟨tg, iter, [], 0⟩] scope pos) (.dK ((xs.foldl (fun m a => putD m (kf a) (vf a)) []).map (·.1)) ((xs.foldl (fun m a => putD m (kf a) (vf a)) []).map (·.2))) :=
  pe_mono (pe_dc (own := own) hc hN hi (blkOk_by ok) lcG_ok lcT_ok lcE_ok lcE_ok hs) fun σ H Q q => dc_read (R := fun r => r = D.dK ((xs.foldl (fun m a => putD m (kf a) (vf a)) []).map (·.1)) ((xs.foldl (fun m a => putD m (kf a) (vf a)) []).map (·.2))) xs kf vf (fun _ z => z) (fun items z => z) (fun a ha s H C cl fp => (ht a ha s H C cl fp).wg ⟨hk a ha, hv a ha⟩) hsz rfl q
end
end VL

set_option maxRecDepth 100000
set_option maxHeartbeats 4000000
namespace VL
open PySem PySem.Spec PyProof.Rows L2
section
variable {X : Cx} {Γ : Gm} {ρ : List Sl} {tg iter kx vx a b c e : Expr} {es rest : List Expr} {pos p : Pos} {x y : Str} {K : PySem.W.Frag} {d d1 d2 : D} {i j : Int} {R : D → Prop} {scope : Scope} {α β : Type} {E : De} {sts : List Stmt}
/-! ### dicts by words -/
abbrev pairD (en : β → D) : W × β → Key × D := fun q => (Sum.inr (SX.S q.1), en q.2)
abbrev eDW (en : β → D) : List (W × β) → D := fun m => .dK ((m.map (pairD en)).map (·.1)) ((m.map (pairD en)).map (·.2))
def putA (m : List (W × β)) (k : W) (v : β) : List (W × β) := if (m.any fun q => decide (q.1 = k)) = true then m.map (fun q => if q.1 = k then (q.1, v) else q) else m ++ [(k, v)]
theorem key_eq {a b : W} : ((Sum.inr (SX.S a) : Key) = Sum.inr (SX.S b)) ↔ a = b := ⟨fun h => S_inj.mp (Sum.inr.inj h), fun h => by rw [h]⟩
theorem putD_map (en : β → D) (m : List (W × β)) (k : W) (v : β) : putD (m.map (pairD en)) (Sum.inr (SX.S k)) (en v) = (putA m k v).map (pairD en) := by
  have e1 : ((m.map (pairD en)).any fun q => decide (q.1 = (Sum.inr (SX.S k) : Key))) = m.any fun q => decide (q.1 = k) := by
    rw [List.any_map]
    congr 1
    funext q
    exact decide_eq_decide.mpr key_eq
  unfold putD putA
  rw [e1]
  by_cases c : (m.any fun q => decide (q.1 = k)) = true
  · rw [if_pos c, if_pos c, List.map_map, List.map_map]
    apply List.map_congr_left
    intro q _
    simp only [Function.comp]
    by_cases h : q.1 = k
    · rw [if_pos (key_eq.mpr h), if_pos h]
    · rw [if_neg fun z => h (key_eq.mp z), if_neg h]
  · rw [if_neg c, if_neg c, List.map_append]; rfl
theorem putD_fold (en : β → D) {kf : α → W} {vf : α → β} : ∀ (xs : List α) (m : List (W × β)), xs.foldl (fun (m : AL) a => putD m (Sum.inr (SX.S (kf a))) (en (vf a))) (m.map (pairD en)) = (xs.foldl (fun m a => putA m (kf a) (vf a)) m).map (pairD en)
  | [], m => rfl
  | a :: xs, m => by rw [List.foldl_cons, putD_map, putD_fold en xs, List.foldl_cons]
theorem evn_dcW {g : α → D} {xs : List α} {kf : α → W} {vf : α → β} {en : β → D} {ρ2 : α → List Sl} (own : List (Str × Nat)) (hi : EvI X Γ ρ tg iter (xs.map g)) (hN : X.N.Nodup) (hsz : xs.length ≤ 1000000)
    (ht : ∀ a ∈ xs, ∀ (s : Shared) (H : Hp) (C : Addr) (cl : List (Str × Addr)) (fp : List Addr), EvG (X.blk s H scope (compEnvC scope cl C X.env) fp) Γ (wipeS ρ (own.map (·.2))) tg (g a) (fun i => i ∈ own.map (·.2)) (ρ2 a))
    (hk : ∀ a ∈ xs, ∀ (s : Shared) (H : Hp) (C : Addr) (cl : List (Str × Addr)) (fp : List Addr), Ev (X.blk s H scope (compEnvC scope cl C X.env) fp) Γ (ρ2 a) kx (wD (kf a)))
    (hv : ∀ a ∈ xs, ∀ (s : Shared) (H : Hp) (C : Addr) (cl : List (Str × Addr)) (fp : List Addr), Ev (X.blk s H scope (compEnvC scope cl C X.env) fp) Γ (ρ2 a) vx (en (vf a)))
    (hc : X.calm = true := by rfl) (ok : blkC X.N X.env.scope scope own = true := by kernel_rfl) (hs : ∀ x, foldedSetIterable iter X.env x = pure x := by intro _; rfl) :
    EvN X Γ ρ (.DictComp kx vx [⟨tg, iter, [], 0⟩] scope pos) (eDW en (xs.foldl (fun m a => putA m (kf a) (vf a)) [])) := by
  have := evn_dc (pos := pos) (kf := fun a => Sum.inr (SX.S (kf a))) (vf := fun a => en (vf a)) own hi hN (by have : (sizeLine : Nat) = 16777216 := rfl; omega) ht hk hv hc ok hs
  have e := putD_fold en (kf := kf) (vf := vf) xs []
  rw [List.map_nil] at e
  rw [e] at this
  exact this
/-! ### least, greatest, sorted -/
theorem wle_not {a b : W} : a ≤ b ↔ ¬ b < a := Iff.rfl
theorem wle_antisymm {a b : W} (h1 : a ≤ b) (h2 : b ≤ a) : a = b := List.le_antisymm h1 h2
theorem wle_total (a b : W) : a ≤ b ∨ b ≤ a := List.le_total a b
theorem wle_trans {a b c : W} (h1 : a ≤ b) (h2 : b ≤ c) : a ≤ c := List.le_trans h1 h2
theorem minW_spec : ∀ {l : List W}, l ≠ [] → minW l ∈ l ∧ ∀ y ∈ l, minW l ≤ y := by
  have key : ∀ (l : List W) (x : W), (l.foldl (fun a b => if b < a then b else a) x = x ∨ l.foldl (fun a b => if b < a then b else a) x ∈ l) ∧ l.foldl (fun a b => if b < a then b else a) x ≤ x ∧ ∀ y ∈ l, l.foldl (fun a b => if b < a then b else a) x ≤ y := by
    intro l
    induction l with
    | nil => intro x; exact ⟨.inl rfl, wlt_irr x, fun _ h => absurd h List.not_mem_nil⟩
    | cons y l ih =>
      intro x
      rw [List.foldl_cons]
      obtain ⟨h1, h2, h3⟩ := ih (if y < x then y else x)
      by_cases c : y < x
      · rw [if_pos c] at h1 h2 h3 ⊢
        refine ⟨?_, wle_trans h2 (fun z => wlt_irr _ (wlt_tr c z)), fun z hz => ?_⟩
        · rcases h1 with e | e
          · right; rw [e]; exact List.mem_cons_self
          · right; exact List.mem_cons_of_mem _ e
        · rcases List.mem_cons.mp hz with e | e
          · rw [e]; exact h2
          · exact h3 z e
      · rw [if_neg c] at h1 h2 h3 ⊢
        refine ⟨?_, h2, fun z hz => ?_⟩
        · rcases h1 with e | e
          · left; exact e
          · right; exact List.mem_cons_of_mem _ e
        · rcases List.mem_cons.mp hz with e | e
          · rw [e]; exact wle_trans h2 c
          · exact h3 z e
  intro l h
  cases l with
  | nil => exact absurd rfl h
  | cons x l =>
    obtain ⟨h1, h2, h3⟩ := key l x
    refine ⟨?_, fun y hy => ?_⟩
    · rcases h1 with e | e
      · show l.foldl _ x ∈ _; rw [e]; exact List.mem_cons_self
      · exact List.mem_cons_of_mem _ e
    · rcases List.mem_cons.mp hy with e | e
      · rw [e]; exact h2
      · exact h3 y e
theorem maxW_spec : ∀ {l : List W}, l ≠ [] → maxW l ∈ l ∧ ∀ y ∈ l, y ≤ maxW l := by
  have key : ∀ (l : List W) (x : W), (l.foldl (fun a b => if a < b then b else a) x = x ∨ l.foldl (fun a b => if a < b then b else a) x ∈ l) ∧ x ≤ l.foldl (fun a b => if a < b then b else a) x ∧ ∀ y ∈ l, y ≤ l.foldl (fun a b => if a < b then b else a) x := by
    intro l
    induction l with
    | nil => intro x; exact ⟨.inl rfl, wlt_irr x, fun _ h => absurd h List.not_mem_nil⟩
    | cons y l ih =>
      intro x
      rw [List.foldl_cons]
      obtain ⟨h1, h2, h3⟩ := ih (if x < y then y else x)
      by_cases c : x < y
      · rw [if_pos c] at h1 h2 h3 ⊢
        refine ⟨?_, wle_trans (fun z => wlt_irr _ (wlt_tr c z)) h2, fun z hz => ?_⟩
        · rcases h1 with e | e
          · right; rw [e]; exact List.mem_cons_self
          · right; exact List.mem_cons_of_mem _ e
        · rcases List.mem_cons.mp hz with e | e
          · rw [e]; exact h2
          · exact h3 z e
      · rw [if_neg c] at h1 h2 h3 ⊢
        refine ⟨?_, h2, fun z hz => ?_⟩
        · rcases h1 with e | e
          · left; exact e
          · right; exact List.mem_cons_of_mem _ e
        · rcases List.mem_cons.mp hz with e | e
          · rw [e]; exact wle_trans c h2
          · exact h3 z e
  intro l h
  cases l with
  | nil => exact absurd rfl h
  | cons x l =>
    obtain ⟨h1, h2, h3⟩ := key l x
    refine ⟨?_, fun y hy => ?_⟩
    · rcases h1 with e | e
      · show l.foldl _ x ∈ _; rw [e]; exact List.mem_cons_self
      · exact List.mem_cons_of_mem _ e
    · rcases List.mem_cons.mp hy with e | e
      · rw [e]; exact h2
      · exact h3 y e
theorem ev_minWL {l : List W} (hm : X.mg "min" = none) (h : Ev X Γ ρ e (eL eW l)) (hn : l ≠ []) (hK : Γ.K = X.K := by rfl) (hc : X.calm = true := by rfl) (hg : Gl X "min" := by rfl) (hst : starEach [e] X.env = (false, eval e X.env) :: starEach [] X.env := by rfl) : Ev X Γ ρ (.Call (.Name "min" p) [e] [] pos) (wD (minW l)) :=
  ev_B (cr_minS hc) hm (ea_cons h ea_nil hst) (fun O H xs Q hd r k => by
    obtain ⟨u, rfl, h1⟩ := reps1 r
    obtain ⟨q, vs, rfl, s, rs⟩ := rep_lst.mp h1
    have e1 := reps_words rs
    subst e1
    have s2 := s.sq
    rw [hK] at s2
    refine ⟨q, l, rfl, s2, List.length_pos_iff.mpr hn, fun m h1 h2 => ?_⟩
    obtain ⟨h3, h4⟩ := minW_spec hn
    have : m = minW l := wle_antisymm (h2 _ h3) (h4 m h1)
    rw [this]
    exact k _ H _ (Ext.refl H) (rep_v.mpr rfl) rfl) (by decide +kernel) hg (by decide) (by decide) hst
theorem ev_maxWL {l : List W} (hm : X.mg "max" = none) (h : Ev X Γ ρ e (eL eW l)) (hn : l ≠ []) (hK : Γ.K = X.K := by rfl) (hc : X.calm = true := by rfl) (hg : Gl X "max" := by rfl) (hst : starEach [e] X.env = (false, eval e X.env) :: starEach [] X.env := by rfl) : Ev X Γ ρ (.Call (.Name "max" p) [e] [] pos) (wD (maxW l)) :=
  ev_B (cr_maxS hc) hm (ea_cons h ea_nil hst) (fun O H xs Q hd r k => by
    obtain ⟨u, rfl, h1⟩ := reps1 r
    obtain ⟨q, vs, rfl, s, rs⟩ := rep_lst.mp h1
    have e1 := reps_words rs
    subst e1
    have s2 := s.sq
    rw [hK] at s2
    refine ⟨q, l, rfl, s2, List.length_pos_iff.mpr hn, fun m h1 h2 => ?_⟩
    obtain ⟨h3, h4⟩ := maxW_spec hn
    have : m = maxW l := wle_antisymm (h4 m h1) (h2 _ h3)
    rw [this]
    exact k _ H _ (Ext.refl H) (rep_v.mpr rfl) rfl) (by decide +kernel) hg (by decide) (by decide) hst
/-! sorted: any data with an order -/
structure PyO {α : Type} [DecidableEq α] {en : α → D} {good : α → Prop} {n : Nat} (q : PyE en good n) (le : α → α → Bool) : Prop where
  hle : ∀ a b, PySem.W.dataLe false q.py a b = le a b
  ali : ∀ a b, PySem.W.alike (q.py a) (q.py b) = true
  srt : ∀ l : List α, PySem.W.Sortable (l.map q.py)
def leW (a b : W) : Bool := decide (a ≤ b)
theorem oW : PyO pyW leW where
  hle := fun a b => by
    have := PySem.W.dataLe_str (fun w : W => SX.S w)
    show PySem.W.dataLe false (fun w : W => PyData.str (SX.S w)) a b = _
    rw [this]; rfl
  ali := fun a b => by simp [pyW, PySem.W.alike]
  srt := fun l => PySem.W.Sortable.others fun b => ⟨(fun z => nomatch z), fun _ z => nomatch z⟩
def rSortT (K : PySem.W.Frag) {α : Type} (enc : α → PyData) : List V → Hp → VK → Prop := fun vs H Q => ∃ (p : Addr) (xs : List (α × V)), vs = [V.ref p] ∧ SqL K H p (xs.map (·.2)) ∧ (∀ x ∈ xs, Dp K H x.2 (enc x.1)) ∧ PySem.W.AllAlike (xs.map fun x => enc x.1) ∧
  PySem.W.Sortable (xs.map fun x => enc x.1) ∧ (∀ x ∈ xs, (enc x.1).depth ≤ 60) ∧ ∀ q, H q = none → Q (.ref q) (upd H q (.lst ((xs.mergeSort (PySem.W.dataLe false fun x => enc x.1)).map (·.2))))
theorem each_of {P : V × Value → Prop} {α : Type} {R : Value → α × V → Prop} : ∀ {xs : List (α × V)} {its : List Value}, Vals (xs.map (·.2)) its → (∀ x ∈ xs, ∀ u, RelV x.2 u → R u x) → PySem.W.EachIs R its xs
  | [], its, h, _ => by cases h; exact .nil
  | x :: xs, its, h, k => by
    cases h with
    | cons h1 h2 => exact .cons (k x List.mem_cons_self _ h1) (each_of (P := P) h2 fun y hy => k y (List.mem_cons_of_mem _ hy))
theorem vals_of_each {α : Type} : ∀ {xs : List (α × V)} {out : List Value}, PySem.W.EachIs (fun v x => RelV x.2 v) out xs → Vals (xs.map (·.2)) out
  | [], _, h => by cases h; exact .nil
  | x :: xs, _, h => by
    cases h with
    | cons h1 h2 => exact .cons h1 (vals_of_each h2)
theorem cr_sortT {α : Type} (enc : α → PyData) (hu : X.A.units + 64 < cLine) : CallR X (.builtin "sorted") (rSortT X.K enc) := by
  intro pins s σ H vs us Q I r h
  obtain ⟨a, xs, rfl, hs, hdp, hal, hsr, hdep, q⟩ := h
  obtain ⟨its, rv, hl, hz⟩ := I.list hs
  rw [Vals.ref1 r]
  have hlen := rv.length
  rw [List.length_map] at hlen
  refine PySem.W.sorted_data (β := α × V) (enc := fun x => enc x.1) (bs := xs) (R := fun v x => RelV x.2 v) hl.isList (each_of (P := fun _ => True) rv fun x hx u hu => hu) (each_of (P := fun _ => True) rv fun x hx u hr => Dp.reads I (enc x.1) x.2 u (hdp x hx) hr) hal hsr (by rw [List.length_map] at hz; exact hz) (fun b hb => by have := hdep b hb; omega) fun out ho he => ?_
  obtain ⟨ep, he'⟩ := PyProof.Rows.sortedAll_at s.heap its out.toArray
  have hv := vals_of_each he
  refine ⟨.ref _, upd H (s.heap.objs.size + 1) (.lst ((xs.mergeSort (PySem.W.dataLe false fun x => enc x.1)).map (·.2))), I.laid (t' := s.toks) (fun _ _ => PyProof.Rows.sortedAll_old) (Nat.le_succ _) ⟨?_, out, ep, hv, ?_⟩, rfl, q _ (I.hok.fresh (Nat.le_succ _))⟩
  · rw [List.length_map, List.length_mergeSort]; rw [List.length_map] at hz; exact hz
  · simpa using he'
theorem rep_good {α : Type} [DecidableEq α] {en : α → D} {good : α → Prop} {n : Nat} (q : PyE en good n) {O : Own} {H : Hp} {a : α} {v : V} (r : Rep K O H (en a) v) : Dp K H v (q.py a) := rep_dp (en a) v (q.py a) r (q.to a)
theorem reps_pairs {en : α → D} {O : Own} {H : Hp} : ∀ {l : List α} {vs : List V}, Reps K O H (l.map en) vs → ∃ xs : List (α × V), xs.map (·.1) = l ∧ xs.map (·.2) = vs ∧ ∀ x ∈ xs, Rep K O H (en x.1) x.2
  | [], vs, h => ⟨[], rfl, (reps_nil.mp h).symm, fun _ h => absurd h List.not_mem_nil⟩
  | a :: l, vs, h => by
    obtain ⟨u, us, e, h1, h2⟩ := reps_cons.mp h
    obtain ⟨xs, e1, e2, e3⟩ := reps_pairs h2
    refine ⟨(a, u) :: xs, by rw [List.map_cons, e1], by rw [List.map_cons, e2, e], fun x hx => ?_⟩
    rcases List.mem_cons.mp hx with z | z
    · rw [z]; exact h1
    · exact e3 x z
theorem pairs_reps {en : α → D} {O : Own} {H : Hp} : ∀ {xs : List (α × V)}, (∀ x ∈ xs, Rep K O H (en x.1) x.2) → Reps K O H ((xs.map (·.1)).map en) (xs.map (·.2))
  | [], _ => Reps.nil
  | x :: xs, h => Reps.cons (h x List.mem_cons_self) (pairs_reps fun y hy => h y (List.mem_cons_of_mem _ hy))
theorem evn_sortT {α : Type} [DecidableEq α] {en : α → D} {good : α → Prop} {n : Nat} {q : PyE en good n} {le : α → α → Bool} (o : PyO q le) (hu : X.A.units + 64 < cLine) {l : List α} (hm : X.mg "sorted" = none) (h : Ev X Γ ρ e (eL en l)) (hn : n ≤ 60 := by decide) (hK : Γ.K = X.K := by rfl) (hg : Gl X "sorted" := by rfl) (hst : starEach [e] X.env = (false, eval e X.env) :: starEach [] X.env := by rfl) :
    EvN X Γ ρ (.Call (.Name "sorted" p) [e] [] pos) (eL en (l.mergeSort le)) :=
  evn_B (cr_sortT q.py hu) hm (ea_cons h ea_nil hst) (fun O H xs Q hd r k => by
    obtain ⟨u, rfl, h1⟩ := reps1 r
    obtain ⟨a, vs, rfl, s, rs⟩ := rep_lst.mp h1
    obtain ⟨xs, e1, e2, e3⟩ := reps_pairs rs
    have s2 := s.sq
    rw [hK] at s2
    refine ⟨a, xs, rfl, by rw [e2]; exact s2, fun x hx => hK ▸ rep_good q (e3 x hx), fun d hd d' hd' => ?_, ?_, fun x hx => Nat.le_trans (q.dep _) hn, fun p hp => ?_⟩
    · obtain ⟨x, _, rfl⟩ := List.mem_map.mp hd
      obtain ⟨y, _, rfl⟩ := List.mem_map.mp hd'
      exact o.ali _ _
    · have : (xs.map fun x => q.py x.1) = l.map q.py := by rw [← e1, List.map_map]; rfl
      rw [this]
      exact o.srt l
    · have hperm : ∀ x ∈ xs.mergeSort (PySem.W.dataLe false fun x => q.py x.1), Rep Γ.K O H (en x.1) x.2 := fun x hx => e3 x (List.mem_mergeSort.mp hx)
      have em : (xs.mergeSort (PySem.W.dataLe false fun x => q.py x.1)).map (·.1) = l.mergeSort le := by
        rw [← e1]
        exact List.map_mergeSort (fun a _ b _ => by
          show PySem.W.dataLe false (fun x : α × V => q.py x.1) a b = le a.1 b.1
          rw [← o.hle]; rfl)
      have rr := pairs_reps hperm
      rw [em] at rr
      exact k p _ _ hp (Ext.new hp) (own_lst hp rr) rfl) (by decide +kernel) hg (by decide) (by decide) hst
/-- sorted words are the words sorted -/
def sortW (l : List W) : List W := l.mergeSort leW
theorem leW_trans : ∀ a b c : W, leW a b = true → leW b c = true → leW a c = true := fun a b c h1 h2 => decide_eq_true (wle_trans (of_decide_eq_true h1) (of_decide_eq_true h2))
theorem leW_total : ∀ a b : W, (leW a b || leW b a) = true := fun a b => by
  rw [Bool.or_eq_true]
  exact (wle_total a b).imp decide_eq_true decide_eq_true
theorem sortW_pair (l : List W) : (sortW l).Pairwise fun a b => a ≤ b := (List.pairwise_mergeSort leW_trans leW_total l).imp fun h => of_decide_eq_true h
theorem sortW_perm (l : List W) : (sortW l).Perm l := List.mergeSort_perm l leW
theorem mem_sortW {l : List W} {x : W} : x ∈ sortW l ↔ x ∈ l := List.mem_mergeSort
theorem sortW_uniq {l m : List W} (hp : m.Perm l) (hs : m.Pairwise fun a b => a ≤ b) : m = sortW l :=
  List.Perm.eq_of_pairwise (fun a b _ _ h1 h2 => wle_antisymm h1 h2) hs (sortW_pair l) (hp.trans (sortW_perm l).symm)
theorem sortedS_pair : ∀ (l : List Str), sortedS l = true → l.Pairwise fun a b => a.cps.toList ≤ b.cps.toList
  | [], _ => List.Pairwise.nil
  | x :: r, h => by
    have key : ∀ (r : List Str) (p : Str), risingS p r = true → (p :: r).Pairwise fun a b => a.cps.toList ≤ b.cps.toList := by
      intro r
      induction r with
      | nil => intro p _; exact List.pairwise_singleton _ _
      | cons y r ih =>
        intro p h
        have h : (!ltCps y.cps.toList p.cps.toList && risingS y r) = true := h
        rw [Bool.and_eq_true, ltCps_eq, Bool.not_eq_true', decide_eq_false_iff_not] at h
        have h2 := ih y h.2
        refine List.pairwise_cons.mpr ⟨fun z hz => ?_, h2⟩
        rcases List.mem_cons.mp hz with e | e
        · rw [e]; exact h.1
        · exact wle_trans (show p.cps.toList ≤ y.cps.toList from h.1) ((List.pairwise_cons.mp h2).1 z e)
    exact key r x h
theorem evn_sortDW {en : β → D} {m : List (W × β)} (hm : X.mg "sorted" = none) (h : Ev X Γ ρ e (eDW en m)) (hl : m.length < 64) (hK : Γ.K = X.K := by rfl) (hc : X.calm = true := by rfl) (hg : Gl X "sorted" := by rfl) (hst : starEach [e] X.env = (false, eval e X.env) :: starEach [] X.env := by rfl) :
    EvN X Γ ρ (.Call (.Name "sorted" p) [e] [] pos) (eL eW (sortW (m.map (·.1)))) :=
  evn_B (call_sortedD hc) hm (ea_cons h ea_nil hst) (fun O H xs Q hd r k => by
    obtain ⟨u, rfl, h1⟩ := reps1 r
    obtain ⟨a, vs, rfl, hn, s, hlen, rs⟩ := rep_dK.mp h1
    have ez : (zipK ((m.map (pairD en)).map (·.1)) vs).map (·.1) = (m.map (·.1)).map (fun w => (Sum.inr (SX.S w) : Key)) := by
      unfold zipK
      rw [List.map_fst_zip (Nat.le_of_eq hlen), List.map_map, List.map_map]
      rfl
    refine ⟨a, _, (m.map (·.1)).map SX.S, rfl, s, by rw [ez, List.map_map, List.map_map, List.map_map]; rfl, by rw [List.length_map, List.length_map]; exact hl, fun ys p hp hs hq => ?_⟩
    have hw : ∃ ws : List W, ys = ws.map SX.S ∧ ws.Perm (m.map (·.1)) := by
      refine ⟨ys.map fun y => y.cps.toList, ?_, ?_⟩
      · rw [List.map_map]
        have : (SX.S ∘ fun y : Str => y.cps.toList) = id := by
          funext y
          show (⟨y.cps.toList.toArray⟩ : Str) = y
          rfl
        rw [this, List.map_id]
      · have := hp.map (fun y : Str => y.cps.toList)
        rw [List.map_map] at this
        have e : ((fun y : Str => y.cps.toList) ∘ SX.S) = id := rfl
        rw [e, List.map_id] at this
        exact this
    obtain ⟨ws, rfl, hp2⟩ := hw
    have hsrt : ws = sortW (m.map (·.1)) := by
      refine sortW_uniq hp2 ?_
      have := sortedS_pair _ hs
      rw [List.pairwise_map] at this
      exact this
    refine k p _ _ hq (Ext.new hq) (own_lst hq (l := ws.map eW) ?_) (by rw [← hsrt])
    have : ws.map eW = ((ws.map SX.S).map V.str).map D.v := by rw [List.map_map, List.map_map]; rfl
    rw [this]
    exact reps_plain.mpr rfl) (by decide +kernel) hg (by decide) (by decide) hst
/-! in; is -/
theorem cp_isB {a b : Bool} : CpD K X .Is (bD a) (bD b) (decide (a = b)) := ⟨_, op_isBl, fun R h => fun O H x y Q hd rx ry k => ⟨a, b, rep_v.mp rx, rep_v.mp ry, k _ H _ (Ext.refl H) (rep_v.mpr rfl) h⟩⟩
theorem cp_notB {a b : Bool} : CpD K X .IsNot (bD a) (bD b) (!decide (a = b)) := ⟨_, op_notBl, fun R h => fun O H x y Q hd rx ry k => ⟨a, b, rep_v.mp rx, rep_v.mp ry, k _ H _ (Ext.refl H) (rep_v.mpr rfl) h⟩⟩
def rInT (K : PySem.W.Frag) : R2 := fun x y H Q => ∃ d ds, Dp K H x d ∧ Dp K H y (.tuple ds) ∧ SeqAt.shaped d = true ∧ SeqAt.shaped (.tuple ds) = true ∧ Q (.bl (ds.any fun z => PyData.eqv z d)) H
theorem op_inT (hu : X.A.units + 65 < cLine) : OpR X (compareOp .In) (rInT X.K) := by
  intro pins s σ H x y v u Q I rx ry h
  obtain ⟨d, ds, hd, he, sd, se, q⟩ := h
  obtain ⟨as, r1⟩ := Dp.reads I d x v hd rx
  obtain ⟨bs, r2⟩ := Dp.reads I (.tuple ds) y u he ry
  exact SeqAt.in_tuple_reads r2 r1 (SeqAt.canLay_of_shaped se) (SeqAt.canLay_of_shaped sd) (room_in_shaped sd hu) ⟨.bl _, H, I, rfl, q⟩
theorem any_mem {α : Type} [DecidableEq α] {en : α → D} {good : α → Prop} {n : Nat} (q : PyE en good n) (a : α) (l : List α) [Decidable (a ∈ l)] : ((l.map q.py).any fun z => PyData.eqv z (q.py a)) = decide (a ∈ l) := by
  rw [List.any_map]
  have : ((fun z => PyData.eqv z (q.py a)) ∘ q.py) = fun z => decide (z = a) := by funext z; exact q.eq z a
  rw [this]
  by_cases h : a ∈ l
  · rw [decide_eq_true h, List.any_eq_true]; exact ⟨a, h, decide_eq_true rfl⟩
  · rw [decide_eq_false h, List.any_eq_false]
    exact fun z hz e => h (by rw [← of_decide_eq_true e]; exact hz)
theorem cp_inT {α : Type} [DecidableEq α] {en : α → D} {good : α → Prop} {n : Nat} (q : PyE en good n) (hu : X.A.units + 65 < cLine) {a : α} {l : List α} [Decidable (a ∈ l)] (h1 : good a) (h2 : ∀ b ∈ l, good b) (hn : n + 1 ≤ 64 := by decide) (hK : K = X.K := by rfl) : CpD K X .In (en a) (eT en l) (decide (a ∈ l)) :=
  ⟨_, op_inT hu, fun R h => fun O H x y Q hd rx ry k => ⟨q.py a, l.map q.py, hK ▸ rep_good q rx, hK ▸ rep_good (pyT q) ry, q.shaped h1 (by omega), (pyT q).shaped h2 hn, by rw [any_mem]; exact k _ H _ (Ext.refl H) (rep_v.mpr rfl) h⟩⟩
theorem cp_inL {α : Type} [DecidableEq α] {en : α → D} {good : α → Prop} {n : Nat} (q : PyE en good n) (hu : X.A.units + 65 < cLine) {a : α} {l : List α} [Decidable (a ∈ l)] (h1 : good a) (h2 : ∀ b ∈ l, good b) (hn : n + 1 ≤ 64 := by decide) (hK : K = X.K := by rfl) : CpD K X .In (en a) (eL en l) (decide (a ∈ l)) :=
  ⟨_, op_inD hu, fun R h => fun O H x y Q hd rx ry k => ⟨q.py a, l.map q.py, hK ▸ rep_good q rx, hK ▸ rep_good (pyL q) ry, q.shaped h1 (by omega), (pyL q).shaped h2 hn, by rw [any_mem]; exact k _ H _ (Ext.refl H) (rep_v.mpr rfl) h⟩⟩
theorem cp_ninL {α : Type} [DecidableEq α] {en : α → D} {good : α → Prop} {n : Nat} (q : PyE en good n) (hu : X.A.units + 65 < cLine) {a : α} {l : List α} [Decidable (a ∈ l)] (h1 : good a) (h2 : ∀ b ∈ l, good b) (hn : n + 1 ≤ 64 := by decide) (hK : K = X.K := by rfl) : CpD K X .NotIn (en a) (eL en l) (!decide (a ∈ l)) :=
  ⟨_, op_notInD hu, fun R h => fun O H x y Q hd rx ry k => ⟨q.py a, l.map q.py, hK ▸ rep_good q rx, hK ▸ rep_good (pyL q) ry, q.shaped h1 (by omega), (pyL q).shaped h2 hn, by rw [any_mem]; exact k _ H _ (Ext.refl H) (rep_v.mpr rfl) h⟩⟩
theorem room65 {k : Nat} {A : Around} (r : Room k A) : A.units + 65 < cLine := by have := r.un; omega
end
end VL

set_option maxRecDepth 100000
set_option maxHeartbeats 4000000
namespace VL
open PySem PySem.Spec PyProof.Rows L2
section
variable {X : Cx} {Γ : Gm} {ρ : List Sl} {tg iter kx vx a b c e : Expr} {es rest : List Expr} {pos p : Pos} {x y : Str} {K : PySem.W.Frag} {d d1 d2 : D} {i j : Int} {R : D → Prop} {scope : Scope} {α β : Type} {E : De} {sts : List Stmt} {en : α → D}
/-! own lists, typed -/
abbrev owL (q : Addr) (en : α → D) (l : List α) : Sl := .own q fun d => d = eL en l
theorem ev_ixOt [Inhabited α] (n : Nat) {q : Addr} {l : List α} {k : Int} {py : Pos} (hρ : ρ[n]? = some (owL q en l)) (hb : Ev X Γ ρ b (iD k)) (hi : InR l k) (hK : Γ.K = X.K := by rfl) (hN : X.N[n]? = some y := by rfl) (hv : Vis X.env.scope y := by first | exact Or.inl rfl | exact Or.inr (Or.inl rfl) | exact Or.inr (Or.inr rfl))
    (hd2 : (y == ("__debug__" : Str)) = false := by decide) (hcd2 : (y == ("__classdict__" : Str)) = false := by decide) (hs : PlainIx b := by intro _ _; rfl) : Ev X Γ ρ (.Subscript (.Name y py) b pos) (en (ix l k)) :=
  ev_ixO n hρ hb (by rw [atI_map, atI_ix hi]; rfl) hK hN hv hd2 hcd2 hs
theorem wb_app (n : Nat) {q : Addr} {l : List α} {v : α} {py apos cpos : Pos} (hρ : ρ[n]? = some (owL q en l)) (h : Ev X Γ ρ e (en v)) (hl : l.length ≤ 1000000) (k : WB X Γ (ρ.set n (owL q en (l ++ [v]))) sts E) (hK : Γ.K = X.K := by rfl)
    (hN : X.N[n]? = some y := by rfl) (hv : Vis X.env.scope y := by first | exact Or.inl rfl | exact Or.inr (Or.inl rfl) | exact Or.inr (Or.inr rfl))
    (hd2 : (y == ("__debug__" : Str)) = false := by decide) (hcd2 : (y == ("__classdict__" : Str)) = false := by decide)
    (hp : ∀ {ta te : TE}, PE X (.Name y py) ta → PE X e te → PS X (.Expr (.Call (.Attribute (.Name y py) "append" apos) [e] [] cpos) pos) (tDrop (tBM X.K "list" rAppend ta (tCons te tNil))) := by
      intro ta te h1 h2; exact ps_expr (pe_bm PySem.F.plainAttrs_list PySem.F.slot_list_append PySem.F.type_list_append mt_append h1 (pa_cons h2 pa_nil))) :
    WB X Γ ρ (.Expr (.Call (.Attribute (.Name y py) "append" apos) [e] [] cpos) pos :: sts) E :=
  wb_cons (ws_append n hρ (h.we ⟨by rw [List.length_map]; exact Nat.lt_of_le_of_lt hl (by decide), by
    show WB X Γ _ sts E
    have : (l.map en ++ [en v]) = (l ++ [v]).map en := by rw [List.map_append]; rfl
    rw [this]
    exact k⟩) hK hN hv hd2 hcd2 hp)
theorem wb_frz (n : Nat) {q : Addr} {d : D} (hρ : ρ[n]? = some (.own q fun d' => d' = d)) (hw : ¬ Γ.W0 q) (h : WB X Γ (ρ.set n (.dat d)) sts E) : WB X Γ ρ sts E := wb_freeze n hρ hw h
theorem wb_lowL (n : Nat) {px : Pos} {l : List α} (h : EvN X Γ ρ e (eL en l)) (k : ∀ q, ¬ Γ.W0 q → WB X Γ (ρ.set n (owL q en l)) sts E) (hN : X.N.Nodup) (hi : X.N[n]? = some x := by rfl) (hx : Loc X.env.scope x := by first | exact Or.inl rfl | exact Or.inr rfl)
    (hp : ∀ {te : TE}, PE X e te → PS X (.Assign [.Name x px] e pos) (tAsg te (gName n)) := by intro te h1; exact ps_set (by assumption) (by rfl) (by first | exact Or.inl rfl | exact Or.inr rfl) h1) : WB X Γ ρ (.Assign [.Name x px] e pos :: sts) E :=
  wb_own n h k hN hi hx hp
theorem evn_nilL : EvN X Γ ρ (.List [] pos) (eL en []) := evn_lst ea_nil (Nat.zero_le _)
theorem ev_odd (ha : Ev X Γ ρ a (iD i)) (hi : 0 ≤ i) {j : Nat} {p2 : Pos} : Ev X Γ ρ (.BinOp a .BitAnd (.Constant (.int 1) j p2) pos) (iD (i % 2)) :=
  ev_op op_odd ha ev_int fun O H x y Q hd rx ry k => by
    obtain ⟨n, rfl⟩ := Int.eq_ofNat_of_zero_le hi
    exact ⟨n, rep_v.mp rx, rep_v.mp ry, k _ H _ (Ext.refl H) (rep_v.mpr rfl) (by norm_cast)⟩
theorem Reps.rev {O : Own} {H : Hp} : ∀ {l : List D} {vs : List V}, Reps K O H l vs → Reps K O H l.reverse vs.reverse
  | [], vs, h => by rw [reps_nil.mp h]; exact Reps.nil
  | d :: l, vs, h => by
    obtain ⟨u, us, e, h1, h2⟩ := reps_cons.mp h
    subst e
    rw [List.reverse_cons, List.reverse_cons]
    exact (Reps.rev h2).append (Reps.cons h1 Reps.nil)
theorem evn_revL {l : List α} {k : Nat} {p1 p2 p3 : Pos} (h : Ev X Γ ρ e (eL en l)) (hK : Γ.K = X.K := by rfl) : EvN X Γ ρ (.Subscript e (.Slice none none (some (.UnaryOp .USub (.Constant (.int 1) k p1) p2)) p3) pos) (eL en l.reverse) :=
  pe_mono (pe_revL h) fun σ H Q ⟨O, ok, k⟩ => ⟨O, ok, fun v H' d ok' k' r' q => by
    subst q
    obtain ⟨a, vs, rfl, s, rs⟩ := rep_lst.mp r'
    refine ⟨a, vs, rfl, hK ▸ s.sq, fun p hp => ?_⟩
    have e : l.reverse.map en = (l.map en).reverse := List.map_reverse
    exact k p _ _ (new_back ok' k' hp) (ok'.newE hp (Ext.new hp) (fun z => by rw [upd_same] at z; cases z)) (k'.trans (Ext.new hp).kr) (own_lst hp (by rw [e]; exact Reps.rev rs)) rfl⟩
end
end VL

set_option maxRecDepth 100000
set_option maxHeartbeats 4000000
namespace VL
open PySem PySem.Spec PyProof.Rows L2
/-! ### all words of a length -/
def awF (L : List Nat) (l : List Int) (s : List W) : List W := l.foldl (fun (s0 : List W) (_ : Int) => s0.flatMap fun word => L.map fun c => word ++ [c]) s
theorem awF_len {L : List Nat} (hL : L.length ≤ 3) : ∀ (l : List Int) (s : List W) (i : Nat), s.length ≤ 3 ^ i → (awF L l s).length ≤ 3 ^ (i + l.length)
  | [], s, i, h => h
  | x :: l, s, i, h => by
    have h1 := flat_len hL s
    have := awF_len hL l (s.flatMap fun word => L.map fun c => word ++ [c]) (i + 1) (Nat.le_trans h1 (by rw [Nat.pow_succ]; omega))
    rw [List.length_cons, show i + (l.length + 1) = i + 1 + l.length from by omega]
    exact this
theorem awF_mem {L : List Nat} : ∀ (l : List Int) (s : List W) (w : W), w ∈ awF L l s ↔ ∃ v ∈ s, ∃ u : W, u.length = l.length ∧ (∀ c ∈ u, c ∈ L) ∧ w = v ++ u
  | [], s, w => by
    constructor
    · intro h
      exact ⟨w, h, [], rfl, fun _ h => absurd h List.not_mem_nil, (List.append_nil w).symm⟩
    · rintro ⟨v, hv, u, hu, _, rfl⟩
      have : u = [] := List.length_eq_zero_iff.mp hu
      rw [this, List.append_nil]
      exact hv
  | x :: l, s, w => by
    show w ∈ awF L l (s.flatMap fun word => L.map fun c => word ++ [c]) ↔ _
    rw [awF_mem l]
    constructor
    · rintro ⟨v, hv, u, hu, hc, rfl⟩
      obtain ⟨v0, hv0, hv⟩ := List.mem_flatMap.mp hv
      obtain ⟨c, hcL, rfl⟩ := List.mem_map.mp hv
      refine ⟨v0, hv0, c :: u, by rw [List.length_cons, hu, List.length_cons], fun d hd => ?_, by rw [List.append_assoc]; rfl⟩
      rcases List.mem_cons.mp hd with e | e
      · rw [e]; exact hcL
      · exact hc d e
    · rintro ⟨v, hv, u, hu, hc, rfl⟩
      cases u with
      | nil => simp at hu
      | cons c u =>
        refine ⟨v ++ [c], List.mem_flatMap.mpr ⟨v, hv, List.mem_map.mpr ⟨c, hc c List.mem_cons_self, rfl⟩⟩, u, by simpa using hu, fun d hd => hc d (List.mem_cons_of_mem _ hd), by rw [List.append_assoc]; rfl⟩
theorem aw_iff {L : List Nat} {size : Int} {w : W} : w ∈ awF L (rngI 0 size) [[]] ↔ w.length = size.toNat ∧ ∀ c ∈ w, c ∈ L := by
  rw [awF_mem, rngI_length, show size - 0 = size from by omega]
  constructor
  · rintro ⟨v, hv, u, hu, hc, rfl⟩
    rw [List.mem_singleton.mp hv, List.nil_append]
    exact ⟨hu, hc⟩
  · rintro ⟨h1, h2⟩
    exact ⟨[], List.mem_singleton.mpr rfl, w, h1, h2, rfl⟩
theorem aw_count {L : List Nat} (hL : L.length ≤ 3) {size : Int} (h : size ≤ 8) : (awF L (rngI 0 size) [[]]).length ≤ 6561 := by
  have := awF_len hL (rngI 0 size) [[]] 0 (by simp)
  rw [rngI_length, Nat.zero_add] at this
  exact Nat.le_trans this (Nat.le_trans (pow3_le (n := 8) (by omega)) (by decide))
/-- the law's own list of them -/
theorem awI_eq {L : List Nat} (l : List Int) (s : List W) : l.foldl (fun (s0 : List W) (_ : Int) => s0.foldl (fun (s1 : List W) (word : W) => s1 ++ L.map fun c => word ++ [c]) []) s = awF L l s := by
  unfold awF
  congr 1
  funext s0 _
  rw [fold_flat, List.nil_append]
/-! ### lists by parts -/
theorem putA_len {β : Type} (m : List (W × β)) (k : W) (v : β) : (putA m k v).length ≤ m.length + 1 := by
  unfold putA
  split
  · rw [List.length_map]; omega
  · rw [List.length_append]; exact Nat.le_refl _
theorem putA_fold {α β : Type} {kf : α → W} {vf : α → β} : ∀ (xs : List α) (m : List (W × β)), (xs.foldl (fun m a => putA m (kf a) (vf a)) m).length ≤ m.length + xs.length
  | [], m => Nat.le_refl _
  | a :: xs, m => by
    have h1 := putA_fold (kf := kf) (vf := vf) xs (putA m (kf a) (vf a))
    have h2 := putA_len m (kf a) (vf a)
    rw [List.foldl_cons, List.length_cons]
    omega
theorem putA_keys {β : Type} (m : List (W × β)) (k : W) (v : β) (x : W) : x ∈ (putA m k v).map (·.1) ↔ x ∈ m.map (·.1) ∨ x = k := by
  unfold putA
  by_cases c : (m.any fun q => decide (q.1 = k)) = true
  · rw [if_pos c, List.map_map]
    have e : ((fun q : W × β => q.1) ∘ fun q : W × β => if q.1 = k then (q.1, v) else q) = fun q => q.1 := by
      funext q
      simp only [Function.comp]
      split <;> rfl
    rw [e]
    refine ⟨.inl, fun h => h.elim id fun h => ?_⟩
    obtain ⟨q, hq, hk⟩ := List.any_eq_true.mp c
    rw [h]
    exact List.mem_map.mpr ⟨q, hq, of_decide_eq_true hk⟩
  · rw [if_neg c, List.map_append, List.mem_append]
    exact or_congr Iff.rfl (by simp)
theorem putA_foldKeys {α β : Type} {kf : α → W} {vf : α → β} (x : W) : ∀ (xs : List α) (m : List (W × β)), x ∈ (xs.foldl (fun m a => putA m (kf a) (vf a)) m).map (·.1) ↔ x ∈ m.map (·.1) ∨ x ∈ xs.map kf
  | [], m => by simp
  | a :: xs, m => by
    rw [List.foldl_cons, putA_foldKeys x xs, putA_keys, List.map_cons, List.mem_cons, or_assoc]
theorem cutL_fromI {α : Type} (l : List α) {i : Int} (h : 0 ≤ i) : cutL l (some i) none = l.drop i.toNat := by
  have := cutL_from l i.toNat
  rw [Int.toNat_of_nonneg h] at this
  exact this
theorem rng_get {a b x : Int} {i : Nat} (h : (rngI a b)[i]? = some x) : x = a + i ∧ x < b := by
  unfold rngI at h
  rw [List.getElem?_map] at h
  cases e : (List.range (b - a).toNat)[i]? with
  | none => rw [e] at h; cases h
  | some j =>
    rw [e] at h
    have hj := (List.getElem?_eq_some_iff.mp e)
    obtain ⟨h1, h2⟩ := hj
    rw [List.getElem_range] at h2
    rw [List.length_range] at h1
    have : a + (j : Int) = x := Option.some.inj h
    omega
end VL

set_option maxRecDepth 100000
set_option maxHeartbeats 4000000
namespace VL
open PySem PySem.Spec PyProof.Rows L2
/-! ### words turned -/
def rot (i : Nat) (w : W) : W := w.drop i ++ w.take i
theorem rot_len (i : Nat) (w : W) : (rot i w).length = w.length := by
  unfold rot
  rw [List.length_append, List.length_drop, List.length_take]
  omega
theorem rot_all (w : W) : rot w.length w = w := by unfold rot; simp
theorem rot_zero (w : W) : rot 0 w = w := by unfold rot; simp
theorem rot_add {w : W} {i j : Nat} (h : i + j ≤ w.length) : rot j (rot i w) = rot (i + j) w := by
  unfold rot
  have h1 : (w.drop i).length = w.length - i := List.length_drop
  rw [List.drop_append_of_le_length (by omega), List.take_append_of_le_length (by omega), List.drop_drop, List.append_assoc, List.take_add]
theorem rot_back {w : W} {i : Nat} (h : i ≤ w.length) : rot (w.length - i) (rot i w) = w := by
  rw [rot_add (by omega), show i + (w.length - i) = w.length from by omega, rot_all]
theorem rot_over {w : W} {i j : Nat} (hi : i ≤ w.length) (hj : j ≤ w.length) (h : w.length < i + j) : rot j (rot i w) = rot (i + j - w.length) w := by
  have e := rot_add (w := rot i w) (i := w.length - i) (j := j - (w.length - i)) (by rw [rot_len]; omega)
  rw [show w.length - i + (j - (w.length - i)) = j from by omega] at e
  rw [← e, rot_back hi]
  congr 1
  omega
theorem rot_comm {w : W} {i j : Nat} (hi : i ≤ w.length) (hj : j ≤ w.length) : rot j (rot i w) = rot i (rot j w) := by
  rcases Nat.lt_or_ge w.length (i + j) with h | h
  · rw [rot_over hi hj h, rot_over hj hi (by omega), Nat.add_comm]
  · rw [rot_add h, rot_add (by omega), Nat.add_comm]
theorem rot_fix {w : W} {i j : Nat} (hi : i ≤ w.length) (hj : j ≤ w.length) : rot j (rot i w) = rot i w ↔ rot j w = w := by
  constructor
  · intro h
    have e := congrArg (rot (w.length - i)) h
    rw [rot_back hi] at e
    rw [rot_comm hi hj] at e
    have l : (rot j w).length = w.length := rot_len j w
    have b := rot_back (w := rot j w) (i := i) (by rw [l]; exact hi)
    rw [l] at b
    rw [b] at e
    exact e
  · intro h
    rw [rot_comm hi hj, h]
def Prim (w : W) : Prop := ∀ j, 0 < j → j < w.length → rot j w ≠ w
theorem prim_rot {w : W} {i : Nat} (hi : i ≤ w.length) (h : Prim w) : Prim (rot i w) := fun j h1 h2 e => by
  rw [rot_len] at h2
  exact h j h1 h2 ((rot_fix hi (by omega)).mp e)
theorem rot_mul {w : W} {j : Nat} (h : rot j w = w) : ∀ m, m * j ≤ w.length → rot (m * j) w = w
  | 0, _ => by rw [Nat.zero_mul, rot_zero]
  | m + 1, hm => by
    rw [Nat.succ_mul] at hm ⊢
    have := rot_mul h m (by omega)
    rw [← rot_add hm, this, h]
/-- a fixed turn gives one by a divisor -/
theorem rot_div {w : W} : ∀ (n j : Nat), j ≤ n → 0 < j → j < w.length → rot j w = w → ∃ d, 0 < d ∧ d ≤ j ∧ w.length % d = 0 ∧ rot d w = w
  | 0, j, hn, h0, _, _ => by omega
  | n + 1, j, hn, h0, hj, h => by
    by_cases c : w.length % j = 0
    · exact ⟨j, h0, Nat.le_refl _, c, h⟩
    · have hlt := Nat.mod_lt w.length h0
      have hm : w.length / j * j ≤ w.length := Nat.div_mul_le_self _ _
      have e1 := rot_mul h (w.length / j) hm
      have hr : w.length / j * j + w.length % j = w.length := by rw [Nat.mul_comm]; exact Nat.div_add_mod _ _
      have e2 := rot_add (w := w) (i := w.length / j * j) (j := w.length % j) (by omega)
      rw [e1, hr, rot_all] at e2
      obtain ⟨d, d1, d2, d3, d4⟩ := rot_div n (w.length % j) (by omega) (by omega) (by omega) e2
      exact ⟨d, d1, by omega, d3, d4⟩
/-! ### the order of words -/
theorem lt_cons {a b : Nat} {l m : W} : (a :: l) < (b :: m) ↔ a < b ∨ (a = b ∧ l < m) := List.cons_lt_cons_iff
theorem nil_le (w : W) : ([] : W) ≤ w := by
  intro h
  cases w <;> simp at h
theorem not_lt_nil (w : W) : ¬ w < ([] : W) := by cases w <;> simp
theorem pre_le (a b : W) : a ≤ a ++ b := by
  induction a with
  | nil => exact nil_le b
  | cons x a ih =>
    intro h
    rcases lt_cons.mp h with z | ⟨_, z⟩
    · exact Nat.lt_irrefl _ z
    · exact ih z
theorem take_le (k : Nat) (w : W) : w.take k ≤ w := by
  have := pre_le (w.take k) (w.drop k)
  rw [List.take_append_drop] at this
  exact this
theorem app_lt {a x y : W} : a ++ x < a ++ y ↔ x < y := by
  induction a with
  | nil => exact Iff.rfl
  | cons c a ih =>
    show (c :: (a ++ x)) < (c :: (a ++ y)) ↔ _
    rw [lt_cons, ih]
    exact ⟨fun h => h.elim (fun z => absurd z (Nat.lt_irrefl _)) (·.2), fun h => .inr ⟨rfl, h⟩⟩
theorem lt_cases : ∀ {a b : W}, a < b → (∃ c, b = a ++ c) ∨ ∀ y z : W, a ++ y < b ++ z
  | [], b, _ => .inl ⟨b, rfl⟩
  | x :: a, [], h => absurd h (not_lt_nil _)
  | x :: a, y :: b, h => by
    rcases lt_cons.mp h with z | ⟨e, z⟩
    · exact .inr fun _ _ => lt_cons.mpr (.inl z)
    · subst e
      rcases lt_cases z with ⟨c, rfl⟩ | k
      · exact .inl ⟨c, rfl⟩
      · exact .inr fun y z => lt_cons.mpr (.inr ⟨rfl, k y z⟩)
theorem lt_same {x u y z : W} (hl : x.length = u.length) (h : x < u) : x ++ y < u ++ z := by
  rcases lt_cases h with ⟨c, e⟩ | k
  · have := congrArg List.length e
    rw [List.length_append] at this
    have : c = [] := List.length_eq_zero_iff.mp (by omega)
    rw [this, List.append_nil] at e
    rw [e] at h
    exact absurd h (wlt_irr _)
  · exact k y z
theorem lt_of_le_ne {a b : W} (h : a ≤ b) (n : a ≠ b) : a < b := Classical.byContradiction fun z => n (wle_antisymm h z)
def Lyn (w : W) : Prop := w ≠ [] ∧ ∀ i, 0 < i → i < w.length → w < w.drop i
/-- the least of a whole word's turns is less than its own ends -/
theorem lyn_min {w : W} (hne : w ≠ []) (hp : Prim w) (hm : ∀ i, i < w.length → w ≤ rot i w) : Lyn w := by
  refine ⟨hne, fun i h1 h2 => Classical.byContradiction fun hn => ?_⟩
  have hv : w.drop i ≤ w := hn
  have hlv : (w.drop i).length = w.length - i := List.length_drop
  have hne2 : w.drop i ≠ w := fun e => by rw [e] at hlv; omega
  have hlt := lt_of_le_ne hv hne2
  have hw1 : w ≤ w.drop i ++ w.take i := hm i h2
  rcases lt_cases hlt with ⟨x, ex⟩ | k
  · have hlx : x.length = i := by
      have := congrArg List.length ex
      rw [List.length_append, hlv] at this
      omega
    have hxu : x ≤ w.take i := fun z => by
      have := app_lt (a := w.drop i).mpr z
      rw [← ex] at this
      exact hw1 this
    have hxne : x ≠ w.take i := fun e => by
      rw [e] at ex
      exact hp i h1 h2 ex.symm
    have hxl := lt_of_le_ne hxu hxne
    have hr : rot (w.length - i) w = x ++ w.drop i := by
      unfold rot
      have e1 : w.drop (w.length - i) = x := by
        have : (w.drop i ++ x).drop (w.drop i).length = x := List.drop_left
        rw [← ex, hlv] at this
        exact this
      have e2 : w.take (w.length - i) = w.drop i := by
        have : (w.drop i ++ x).take (w.drop i).length = w.drop i := List.take_left
        rw [← ex, hlv] at this
        exact this
      rw [e1, e2]
    have h3 := hm (w.length - i) (by omega)
    rw [hr] at h3
    have h4 : x ++ w.drop i < w.take i ++ w.drop i := lt_same (by rw [hlx, List.length_take]; omega) hxl
    rw [List.take_append_drop] at h4
    exact h3 h4
  · have := k (w.take i) []
    rw [List.append_nil] at this
    exact hw1 this
/-! ### borders -/
/-- the borders' sizes -/
def Brd (w : W) (k : Nat) : Prop := 0 < k ∧ k < w.length ∧ w.take k = w.drop (w.length - k)
theorem lyn_unb {w : W} (h : Lyn w) (k : Nat) : ¬ Brd w k := fun ⟨h1, h2, h3⟩ => by
  have := h.2 (w.length - k) (by omega) (by omega)
  rw [← h3] at this
  exact take_le k w this
/-- an unbordered word is whole -/
theorem unb_prim {w : W} (h : ∀ k, ¬ Brd w k) : Prim w := fun j h1 h2 e => by
  refine h (w.length - j) ⟨by omega, by omega, ?_⟩
  rw [show w.length - (w.length - j) = j from by omega]
  have : (w.drop j ++ w.take j).take (w.drop j).length = w.drop j := List.take_left
  unfold rot at e
  rw [e, List.length_drop] at this
  exact this
/-- a border of a border -/
theorem brd_in {w : W} {k j : Nat} (h : Brd w k) (hj : Brd (w.take k) j) : Brd w j := by
  obtain ⟨h1, h2, h3⟩ := h
  obtain ⟨j1, j2, j3⟩ := hj
  have hl : (w.take k).length = k := by rw [List.length_take]; omega
  rw [hl] at j2 j3
  refine ⟨j1, by omega, ?_⟩
  have e1 : (w.take k).take j = w.take j := by rw [List.take_take, Nat.min_eq_left (by omega)]
  rw [← e1, j3, h3, List.drop_drop]
  congr 1
  omega
/-- a border over half the word has a border less -/
theorem brd_half {w : W} {k : Nat} (h : Brd w k) (hk : w.length < 2 * k) : Brd w (2 * k - w.length) := by
  obtain ⟨h1, h2, h3⟩ := h
  refine ⟨by omega, by omega, ?_⟩
  have e1 : w.drop (w.length - (2 * k - w.length)) = (w.drop (w.length - k)).drop (w.length - k) := by
    rw [List.drop_drop]; congr 1; omega
  have e2 : (w.take k).drop (w.length - k) = (w.drop (w.length - k)).take (2 * k - w.length) := by
    rw [List.drop_take]; congr 1; omega
  rw [e1, ← h3, e2, ← h3, List.take_take]
  congr 1
  omega
theorem ix_zero {α : Type} [Inhabited α] {y : α} {l : List α} : ix (y :: l) 0 = y := ix_nat (l := y :: l) (k := 0) (by simp)
end VL

set_option maxRecDepth 100000
set_option maxHeartbeats 0
namespace Lw
open PySem PySem.Spec PyProof.Rows L2

def top (i : Nat) : Stmt := PySem.Challenge.pw_leastwords_k69_whole_words_without_borde.main.body.getD i (.Pass ⟨0, 0, 0, 0⟩)
abbrev s_is_whole_values : Stmt := top 1
def d_is_whole_values : He.DefD := ⟨("is_whole_values", none), "is_whole", "is_whole", defArgs (top 1), defBody (top 1), defScope (top 1), [], []⟩
abbrev s_is_between : Stmt := top 3
def d_is_between : He.DefD := ⟨("is_between", none), "is_between", "is_between", defArgs (top 3), defBody (top 3), defScope (top 3), [], []⟩
abbrev s_is_text_of : Stmt := top 4
def d_is_text_of : He.DefD := ⟨("is_text_of", none), "is_text_of", "is_text_of", defArgs (top 4), defBody (top 4), defScope (top 4), [], []⟩
abbrev s_power_of : Stmt := top 5
def d_power_of : He.DefD := ⟨("power_of", none), "power_of", "power_of", defArgs (top 5), defBody (top 5), defScope (top 5), [], []⟩
abbrev s_is_letter_number : Stmt := top 10
def d_is_letter_number : He.DefD := ⟨("is_letter_number", none), "is_letter_number", "is_letter_number", defArgs (top 10), defBody (top 10), defScope (top 10), [], []⟩
abbrev s_letters_of : Stmt := top 11
def d_letters_of : He.DefD := ⟨("letters_of", none), "letters_of", "letters_of", defArgs (top 11), defBody (top 11), defScope (top 11), [], []⟩
abbrev s_is_word_of : Stmt := top 12
def d_is_word_of : He.DefD := ⟨("is_word_of", none), "is_word_of", "is_word_of", defArgs (top 12), defBody (top 12), defScope (top 12), [], []⟩
abbrev s_is_worded : Stmt := top 13
def d_is_worded : He.DefD := ⟨("is_worded", none), "is_worded", "is_worded", defArgs (top 13), defBody (top 13), defScope (top 13), [], []⟩
abbrev s_all_words : Stmt := top 14
def d_all_words : He.DefD := ⟨("all_words", none), "all_words", "all_words", defArgs (top 14), defBody (top 14), defScope (top 14), [], []⟩
abbrev s_borders_by : Stmt := top 16
def d_borders_by : He.DefD := ⟨("borders_by", none), "borders_by", "borders_by", defArgs (top 16), defBody (top 16), defScope (top 16), [], []⟩
abbrev s_periods_by : Stmt := top 17
def d_periods_by : He.DefD := ⟨("periods_by", none), "periods_by", "periods_by", defArgs (top 17), defBody (top 17), defScope (top 17), [], []⟩
abbrev s_least_period_by : Stmt := top 18
def d_least_period_by : He.DefD := ⟨("least_period_by", none), "least_period_by", "least_period_by", defArgs (top 18), defBody (top 18), defScope (top 18), [], []⟩
abbrev s_over_by : Stmt := top 19
def d_over_by : He.DefD := ⟨("over_by", none), "over_by", "over_by", defArgs (top 19), defBody (top 19), defScope (top 19), [], []⟩
abbrev s_mean_wait_by : Stmt := top 20
def d_mean_wait_by : He.DefD := ⟨("mean_wait_by", none), "mean_wait_by", "mean_wait_by", defArgs (top 20), defBody (top 20), defScope (top 20), [], []⟩
abbrev s_check_word : Stmt := top 28
def d_check_word : He.DefD := ⟨("check_word", none), "check_word", "check_word", defArgs (top 28), defBody (top 28), defScope (top 28), [], []⟩
abbrev s_check_filled_word : Stmt := top 29
def d_check_filled_word : He.DefD := ⟨("check_filled_word", none), "check_filled_word", "check_filled_word", defArgs (top 29), defBody (top 29), defScope (top 29), [], []⟩
abbrev s_check_letters : Stmt := top 30
def d_check_letters : He.DefD := ⟨("check_letters", none), "check_letters", "check_letters", defArgs (top 30), defBody (top 30), defScope (top 30), [], []⟩
abbrev s_check_size : Stmt := top 31
def d_check_size : He.DefD := ⟨("check_size", none), "check_size", "check_size", defArgs (top 31), defBody (top 31), defScope (top 31), [], []⟩
abbrev s_check_number_size : Stmt := top 32
def d_check_number_size : He.DefD := ⟨("check_number_size", none), "check_number_size", "check_number_size", defArgs (top 32), defBody (top 32), defScope (top 32), [], []⟩
abbrev s_borders : Stmt := top 34
def d_borders : He.DefD := ⟨("borders", none), "borders", "borders", defArgs (top 34), defBody (top 34), defScope (top 34), [], []⟩
abbrev s_least_period : Stmt := top 35
def d_least_period : He.DefD := ⟨("least_period", none), "least_period", "least_period", defArgs (top 35), defBody (top 35), defScope (top 35), [], []⟩
abbrev s_mean_wait : Stmt := top 36
def d_mean_wait : He.DefD := ⟨("mean_wait", none), "mean_wait", "mean_wait", defArgs (top 36), defBody (top 36), defScope (top 36), [], []⟩
abbrev s_turned_by : Stmt := top 38
def d_turned_by : He.DefD := ⟨("turned_by", none), "turned_by", "turned_by", defArgs (top 38), defBody (top 38), defScope (top 38), [], []⟩
abbrev s_turns_of : Stmt := top 39
def d_turns_of : He.DefD := ⟨("turns_of", none), "turns_of", "turns_of", defArgs (top 39), defBody (top 39), defScope (top 39), [], []⟩
abbrev s_unlike_turns : Stmt := top 40
def d_unlike_turns : He.DefD := ⟨("unlike_turns", none), "unlike_turns", "unlike_turns", defArgs (top 40), defBody (top 40), defScope (top 40), [], []⟩
abbrev s_ring_by : Stmt := top 41
def d_ring_by : He.DefD := ⟨("ring_by", none), "ring_by", "ring_by", defArgs (top 41), defBody (top 41), defScope (top 41), [], []⟩
abbrev s_divisors_of : Stmt := top 42
def d_divisors_of : He.DefD := ⟨("divisors_of", none), "divisors_of", "divisors_of", defArgs (top 42), defBody (top 42), defScope (top 42), [], []⟩
abbrev s_root_by : Stmt := top 43
def d_root_by : He.DefD := ⟨("root_by", none), "root_by", "root_by", defArgs (top 43), defBody (top 43), defScope (top 43), [], []⟩
abbrev s_is_whole_by : Stmt := top 44
def d_is_whole_by : He.DefD := ⟨("is_whole_by", none), "is_whole_by", "is_whole_by", defArgs (top 44), defBody (top 44), defScope (top 44), [], []⟩
abbrev s_ends_of : Stmt := top 46
def d_ends_of : He.DefD := ⟨("ends_of", none), "ends_of", "ends_of", defArgs (top 46), defBody (top 46), defScope (top 46), [], []⟩
abbrev s_is_least_by : Stmt := top 47
def d_is_least_by : He.DefD := ⟨("is_least_by", none), "is_least_by", "is_least_by", defArgs (top 47), defBody (top 47), defScope (top 47), [], []⟩
abbrev s_least_of_length : Stmt := top 48
def d_least_of_length : He.DefD := ⟨("least_of_length", none), "least_of_length", "least_of_length", defArgs (top 48), defBody (top 48), defScope (top 48), [], []⟩
abbrev s_is_least : Stmt := top 51
def d_is_least : He.DefD := ⟨("is_least", none), "is_least", "is_least", defArgs (top 51), defBody (top 51), defScope (top 51), [], []⟩
abbrev s_least_words : Stmt := top 52
def d_least_words : He.DefD := ⟨("least_words", none), "least_words", "least_words", defArgs (top 52), defBody (top 52), defScope (top 52), [], []⟩
abbrev s_all_turns : Stmt := top 54
def d_all_turns : He.DefD := ⟨("all_turns", none), "all_turns", "all_turns", defArgs (top 54), defBody (top 54), defScope (top 54), [], []⟩
abbrev s_ring : Stmt := top 55
def d_ring : He.DefD := ⟨("ring", none), "ring", "ring", defArgs (top 55), defBody (top 55), defScope (top 55), [], []⟩
abbrev s_is_whole : Stmt := top 56
def d_is_whole : He.DefD := ⟨("is_whole", none), "is_whole", "is_whole", defArgs (top 56), defBody (top 56), defScope (top 56), [], []⟩
abbrev s_is_whole_turns : Stmt := top 56
def d_is_whole_turns : He.DefD := ⟨("is_whole_turns", none), "is_whole", "is_whole", defArgs (top 56), defBody (top 56), defScope (top 56), [], []⟩
abbrev s__law_well : Stmt := top 59
def d__law_well : He.DefD := ⟨("_law_well", none), "_law_well", "_law_well", defArgs (top 59), defBody (top 59), defScope (top 59), [], []⟩
abbrev s__law_take : Stmt := top 60
def d__law_take : He.DefD := ⟨("_law_take", none), "_law_take", "_law_take", defArgs (top 60), defBody (top 60), defScope (top 60), [], []⟩
abbrev s__law_same : Stmt := top 61
def d__law_same : He.DefD := ⟨("_law_same", none), "_law_same", "_law_same", defArgs (top 61), defBody (top 61), defScope (top 61), [], []⟩
abbrev s__law_word : Stmt := top 62
def d__law_word : He.DefD := ⟨("_law_word", none), "_law_word", "_law_word", defArgs (top 62), defBody (top 62), defScope (top 62), [], []⟩
abbrev s__law_words : Stmt := top 63
def d__law_words : He.DefD := ⟨("_law_words", none), "_law_words", "_law_words", defArgs (top 63), defBody (top 63), defScope (top 63), [], []⟩
abbrev s__law_borders : Stmt := top 64
def d__law_borders : He.DefD := ⟨("_law_borders", none), "_law_borders", "_law_borders", defArgs (top 64), defBody (top 64), defScope (top 64), [], []⟩
abbrev s__law_power : Stmt := top 65
def d__law_power : He.DefD := ⟨("_law_power", none), "_law_power", "_law_power", defArgs (top 65), defBody (top 65), defScope (top 65), [], []⟩
abbrev s__law_counts : Stmt := top 66
def d__law_counts : He.DefD := ⟨("_law_counts", none), "_law_counts", "_law_counts", defArgs (top 66), defBody (top 66), defScope (top 66), [], []⟩
abbrev s__law_asked : Stmt := top 67
def d__law_asked : He.DefD := ⟨("_law_asked", none), "_law_asked", "_law_asked", defArgs (top 67), defBody (top 67), defScope (top 67), [], []⟩
abbrev s_law : Stmt := top 68
def d_law : He.DefD := ⟨("law", none), "law", "law", defArgs (top 68), defBody (top 68), defScope (top 68), [], []⟩
def fn : List He.DefD := [d_is_whole_values, d_is_between, d_is_text_of, d_power_of, d_is_letter_number, d_letters_of, d_is_word_of, d_is_worded, d_all_words, d_borders_by, d_periods_by, d_least_period_by, d_over_by, d_mean_wait_by, d_check_word, d_check_filled_word, d_check_letters, d_check_size, d_check_number_size, d_borders, d_least_period, d_mean_wait, d_turned_by, d_turns_of, d_unlike_turns, d_ring_by, d_divisors_of, d_root_by, d_is_whole_by, d_ends_of, d_is_least_by, d_least_of_length, d_is_least, d_least_words, d_all_turns, d_ring, d_is_whole, d_is_whole_turns, d__law_well, d__law_take, d__law_same, d__law_word, d__law_words, d__law_borders, d__law_power, d__law_counts, d__law_asked, d_law]
def fa : List He.Fa := [.glo "is_whole_values", .glo "is_between", .glo "is_text_of", .glo "power_of", .glo "is_letter_number", .glo "letters_of", .glo "is_word_of", .glo "is_worded", .glo "all_words", .glo "borders_by", .glo "periods_by", .glo "least_period_by", .glo "over_by", .glo "mean_wait_by", .glo "check_word", .glo "check_filled_word", .glo "check_letters", .glo "check_size", .glo "check_number_size", .glo "borders", .glo "least_period", .glo "mean_wait", .glo "turned_by", .glo "turns_of", .glo "unlike_turns", .glo "ring_by", .glo "divisors_of", .glo "root_by", .glo "is_whole_by", .glo "ends_of", .glo "is_least_by", .glo "least_of_length", .glo "is_least", .glo "least_words", .glo "all_turns", .glo "ring", .glo "is_whole", .glo "is_whole_turns", .glo "_law_well", .glo "_law_take", .glo "_law_same", .glo "_law_word", .glo "_law_words", .glo "_law_borders", .glo "_law_power", .glo "_law_counts", .glo "_law_asked", .glo "law", .free "len", .free "range", .free "isinstance", .free "all", .free "any", .free "sum", .free "int", .free "abs", .free "divmod", .free "sorted", .free "tuple", .free "list", .free "min", .free "max", .free "str", .free "bool", .str "LETTERS" "abc", .int "MOST_LETTERS" 3, .int "LONGEST" 12, .int "LONGEST_TOLD" 7]
abbrev R : PySem.W.OpenRow := PySem.W.OpenLaw.row PySem.Challenge.rw_leastwords_k69_whole_words_without_borde
abbrev hk : PySem.W.Hook := He.hookD 4 fa fn
def ob (s : PySem.W.SharedT) : He.AlD := He.obsDG 4 fa fn (HandSHeadRun.getT s)
theorem ob_eq (s : PySem.W.SharedT) : ob s = hk.obs s.abs := He.obsDG_eq (HandSHeadRun.getT_eq s)
def loose : List Str := (["is_whole", "is_whole_values", "is_between", "is_text_of", "power_of", "LETTERS", "MOST_LETTERS", "LONGEST"] : List Str) ++ (["is_letter_number", "letters_of", "is_word_of", "is_worded", "all_words", "borders_by", "periods_by", "least_period_by"] : List Str) ++ (["over_by", "mean_wait_by", "WordError", "InvalidWord", "InvalidNumber", "InvalidSize", "DoesNotFit", "check_word"] : List Str) ++ (["check_filled_word", "check_letters", "check_size", "check_number_size", "borders", "least_period", "mean_wait", "turned_by"] : List Str) ++ (["turns_of", "unlike_turns", "ring_by", "divisors_of", "root_by", "is_whole_by", "ends_of", "is_least_by"] : List Str) ++ (["least_of_length", "LONGEST_TOLD", "is_least", "least_words", "all_turns", "ring", "is_whole", "is_whole_turns"] : List Str) ++ (["_law_well", "_law_take", "_law_same", "_law_word", "_law_words", "_law_borders", "_law_power", "_law_counts"] : List Str) ++ (["_law_asked"] : List Str)
theorem run (w : World) : HandSHeadRun.RunEq R (PySem.W.view R.prog [68]) hk ob 6000 loose w := by
  intro os
  kernel_rfl
end Lw

set_option maxRecDepth 100000
set_option maxHeartbeats 4000000
namespace Lw
open PySem PySem.Spec PyProof.Rows L2 VL
local macro_rules | `(tactic| trivial) => `(tactic| first | assumption | (and_intros <;> first | assumption | omega) | exact ty_I | exact ty_W | exact ty_B | exact ty_N | exact ty_T | exact ty_L | omega | (refine sl_le ?_; first | omega | (rw [rngI_length]; omega) | exact Nat.le_trans (cutL_len _ _ _) (by omega) | exact Nat.le_trans (Nat.add_le_add_right (cutL_len _ _ _) _) (by simp only [List.length_cons, List.length_nil]; omega)) | exact Or.inr ⟨by omega, by omega⟩ | exact Or.inl ⟨by omega, by omega⟩ | (simp only [mem_rngI] at *; first | omega | exact Or.inr ⟨by omega, by omega⟩) | (simp only [InR, decide_eq_true_eq, Bool.not_eq_true', decide_eq_false_iff_not, mem_rngI, Bool.and_eq_true] at *; omega) | (exfalso; simp_all; done))
structure Tx (K : PySem.W.Frag) (mg : Str → Option Value) : Prop where
  b_len : mg "len" = none
  b_range : mg "range" = none
  b_isinstance : mg "isinstance" = none
  b_all : mg "all" = none
  b_any : mg "any" = none
  b_sum : mg "sum" = none
  b_int : mg "int" = none
  b_abs : mg "abs" = none
  b_divmod : mg "divmod" = none
  b_sorted : mg "sorted" = none
  b_tuple : mg "tuple" = none
  b_list : mg "list" = none
  b_min : mg "min" = none
  b_max : mg "max" = none
  b_str : mg "str" = none
  b_bool : mg "bool" = none
  c_LETTERS : ∃ t, mg "LETTERS" = some (.str "abc" t)
  c_MOST_LETTERS : ∃ t, mg "MOST_LETTERS" = some (.int 3 t)
  c_LONGEST : ∃ t, mg "LONGEST" = some (.int 12 t)
  c_LONGEST_TOLD : ∃ t, mg "LONGEST_TOLD" = some (.int 7 t)
  d_is_whole_values : DefAt K mg d_is_whole_values
  d_is_between : DefAt K mg d_is_between
  d_is_text_of : DefAt K mg d_is_text_of
  d_power_of : DefAt K mg d_power_of
  d_is_letter_number : DefAt K mg d_is_letter_number
  d_letters_of : DefAt K mg d_letters_of
  d_is_word_of : DefAt K mg d_is_word_of
  d_is_worded : DefAt K mg d_is_worded
  d_all_words : DefAt K mg d_all_words
  d_borders_by : DefAt K mg d_borders_by
  d_periods_by : DefAt K mg d_periods_by
  d_least_period_by : DefAt K mg d_least_period_by
  d_over_by : DefAt K mg d_over_by
  d_mean_wait_by : DefAt K mg d_mean_wait_by
  d_check_word : DefAt K mg d_check_word
  d_check_filled_word : DefAt K mg d_check_filled_word
  d_check_letters : DefAt K mg d_check_letters
  d_check_size : DefAt K mg d_check_size
  d_check_number_size : DefAt K mg d_check_number_size
  d_borders : DefAt K mg d_borders
  d_least_period : DefAt K mg d_least_period
  d_mean_wait : DefAt K mg d_mean_wait
  d_turned_by : DefAt K mg d_turned_by
  d_turns_of : DefAt K mg d_turns_of
  d_unlike_turns : DefAt K mg d_unlike_turns
  d_ring_by : DefAt K mg d_ring_by
  d_divisors_of : DefAt K mg d_divisors_of
  d_root_by : DefAt K mg d_root_by
  d_is_whole_by : DefAt K mg d_is_whole_by
  d_ends_of : DefAt K mg d_ends_of
  d_is_least_by : DefAt K mg d_is_least_by
  d_least_of_length : DefAt K mg d_least_of_length
  d_is_least : DefAt K mg d_is_least
  d_least_words : DefAt K mg d_least_words
  d_all_turns : DefAt K mg d_all_turns
  d_ring : DefAt K mg d_ring
  d_is_whole : DefAt K mg d_is_whole
  d_is_whole_turns : DefAt K mg d_is_whole_turns
  d__law_well : DefAt K mg d__law_well
  d__law_take : DefAt K mg d__law_take
  d__law_same : DefAt K mg d__law_same
  d__law_word : DefAt K mg d__law_word
  d__law_words : DefAt K mg d__law_words
  d__law_borders : DefAt K mg d__law_borders
  d__law_power : DefAt K mg d__law_power
  d__law_counts : DefAt K mg d__law_counts
  d__law_asked : DefAt K mg d__law_asked
  d_law : DefAt K mg d_law
theorem tx_of {K : PySem.W.Frag} {h : Heap} {mg : Str → Option Value} (X : K.In h) (G : h.Ns mainGlobals mg) (c : He.SaysD fa fn K) : Tx K mg where
  b_len := He.free_ok X G (c.fact 48 (f := .free "len") rfl)
  b_range := He.free_ok X G (c.fact 49 (f := .free "range") rfl)
  b_isinstance := He.free_ok X G (c.fact 50 (f := .free "isinstance") rfl)
  b_all := He.free_ok X G (c.fact 51 (f := .free "all") rfl)
  b_any := He.free_ok X G (c.fact 52 (f := .free "any") rfl)
  b_sum := He.free_ok X G (c.fact 53 (f := .free "sum") rfl)
  b_int := He.free_ok X G (c.fact 54 (f := .free "int") rfl)
  b_abs := He.free_ok X G (c.fact 55 (f := .free "abs") rfl)
  b_divmod := He.free_ok X G (c.fact 56 (f := .free "divmod") rfl)
  b_sorted := He.free_ok X G (c.fact 57 (f := .free "sorted") rfl)
  b_tuple := He.free_ok X G (c.fact 58 (f := .free "tuple") rfl)
  b_list := He.free_ok X G (c.fact 59 (f := .free "list") rfl)
  b_min := He.free_ok X G (c.fact 60 (f := .free "min") rfl)
  b_max := He.free_ok X G (c.fact 61 (f := .free "max") rfl)
  b_str := He.free_ok X G (c.fact 62 (f := .free "str") rfl)
  b_bool := He.free_ok X G (c.fact 63 (f := .free "bool") rfl)
  c_LETTERS := He.str_ok X G (c.fact 64 (f := .str "LETTERS" "abc") rfl)
  c_MOST_LETTERS := He.int_ok X G (c.fact 65 (f := .int "MOST_LETTERS" 3) rfl)
  c_LONGEST := He.int_ok X G (c.fact 66 (f := .int "LONGEST" 12) rfl)
  c_LONGEST_TOLD := He.int_ok X G (c.fact 67 (f := .int "LONGEST_TOLD" 7) rfl)
  d_is_whole_values := by
    obtain ⟨fd, F⟩ := c.def_ 0 (d := d_is_whole_values) rfl
    exact ⟨_, fd, F, He.glo_ok X G (c.fact 0 (f := .glo "is_whole_values") rfl)⟩
  d_is_between := by
    obtain ⟨fd, F⟩ := c.def_ 1 (d := d_is_between) rfl
    exact ⟨_, fd, F, He.glo_ok X G (c.fact 1 (f := .glo "is_between") rfl)⟩
  d_is_text_of := by
    obtain ⟨fd, F⟩ := c.def_ 2 (d := d_is_text_of) rfl
    exact ⟨_, fd, F, He.glo_ok X G (c.fact 2 (f := .glo "is_text_of") rfl)⟩
  d_power_of := by
    obtain ⟨fd, F⟩ := c.def_ 3 (d := d_power_of) rfl
    exact ⟨_, fd, F, He.glo_ok X G (c.fact 3 (f := .glo "power_of") rfl)⟩
  d_is_letter_number := by
    obtain ⟨fd, F⟩ := c.def_ 4 (d := d_is_letter_number) rfl
    exact ⟨_, fd, F, He.glo_ok X G (c.fact 4 (f := .glo "is_letter_number") rfl)⟩
  d_letters_of := by
    obtain ⟨fd, F⟩ := c.def_ 5 (d := d_letters_of) rfl
    exact ⟨_, fd, F, He.glo_ok X G (c.fact 5 (f := .glo "letters_of") rfl)⟩
  d_is_word_of := by
    obtain ⟨fd, F⟩ := c.def_ 6 (d := d_is_word_of) rfl
    exact ⟨_, fd, F, He.glo_ok X G (c.fact 6 (f := .glo "is_word_of") rfl)⟩
  d_is_worded := by
    obtain ⟨fd, F⟩ := c.def_ 7 (d := d_is_worded) rfl
    exact ⟨_, fd, F, He.glo_ok X G (c.fact 7 (f := .glo "is_worded") rfl)⟩
  d_all_words := by
    obtain ⟨fd, F⟩ := c.def_ 8 (d := d_all_words) rfl
    exact ⟨_, fd, F, He.glo_ok X G (c.fact 8 (f := .glo "all_words") rfl)⟩
  d_borders_by := by
    obtain ⟨fd, F⟩ := c.def_ 9 (d := d_borders_by) rfl
    exact ⟨_, fd, F, He.glo_ok X G (c.fact 9 (f := .glo "borders_by") rfl)⟩
  d_periods_by := by
    obtain ⟨fd, F⟩ := c.def_ 10 (d := d_periods_by) rfl
    exact ⟨_, fd, F, He.glo_ok X G (c.fact 10 (f := .glo "periods_by") rfl)⟩
  d_least_period_by := by
    obtain ⟨fd, F⟩ := c.def_ 11 (d := d_least_period_by) rfl
    exact ⟨_, fd, F, He.glo_ok X G (c.fact 11 (f := .glo "least_period_by") rfl)⟩
  d_over_by := by
    obtain ⟨fd, F⟩ := c.def_ 12 (d := d_over_by) rfl
    exact ⟨_, fd, F, He.glo_ok X G (c.fact 12 (f := .glo "over_by") rfl)⟩
  d_mean_wait_by := by
    obtain ⟨fd, F⟩ := c.def_ 13 (d := d_mean_wait_by) rfl
    exact ⟨_, fd, F, He.glo_ok X G (c.fact 13 (f := .glo "mean_wait_by") rfl)⟩
  d_check_word := by
    obtain ⟨fd, F⟩ := c.def_ 14 (d := d_check_word) rfl
    exact ⟨_, fd, F, He.glo_ok X G (c.fact 14 (f := .glo "check_word") rfl)⟩
  d_check_filled_word := by
    obtain ⟨fd, F⟩ := c.def_ 15 (d := d_check_filled_word) rfl
    exact ⟨_, fd, F, He.glo_ok X G (c.fact 15 (f := .glo "check_filled_word") rfl)⟩
  d_check_letters := by
    obtain ⟨fd, F⟩ := c.def_ 16 (d := d_check_letters) rfl
    exact ⟨_, fd, F, He.glo_ok X G (c.fact 16 (f := .glo "check_letters") rfl)⟩
  d_check_size := by
    obtain ⟨fd, F⟩ := c.def_ 17 (d := d_check_size) rfl
    exact ⟨_, fd, F, He.glo_ok X G (c.fact 17 (f := .glo "check_size") rfl)⟩
  d_check_number_size := by
    obtain ⟨fd, F⟩ := c.def_ 18 (d := d_check_number_size) rfl
    exact ⟨_, fd, F, He.glo_ok X G (c.fact 18 (f := .glo "check_number_size") rfl)⟩
  d_borders := by
    obtain ⟨fd, F⟩ := c.def_ 19 (d := d_borders) rfl
    exact ⟨_, fd, F, He.glo_ok X G (c.fact 19 (f := .glo "borders") rfl)⟩
  d_least_period := by
    obtain ⟨fd, F⟩ := c.def_ 20 (d := d_least_period) rfl
    exact ⟨_, fd, F, He.glo_ok X G (c.fact 20 (f := .glo "least_period") rfl)⟩
  d_mean_wait := by
    obtain ⟨fd, F⟩ := c.def_ 21 (d := d_mean_wait) rfl
    exact ⟨_, fd, F, He.glo_ok X G (c.fact 21 (f := .glo "mean_wait") rfl)⟩
  d_turned_by := by
    obtain ⟨fd, F⟩ := c.def_ 22 (d := d_turned_by) rfl
    exact ⟨_, fd, F, He.glo_ok X G (c.fact 22 (f := .glo "turned_by") rfl)⟩
  d_turns_of := by
    obtain ⟨fd, F⟩ := c.def_ 23 (d := d_turns_of) rfl
    exact ⟨_, fd, F, He.glo_ok X G (c.fact 23 (f := .glo "turns_of") rfl)⟩
  d_unlike_turns := by
    obtain ⟨fd, F⟩ := c.def_ 24 (d := d_unlike_turns) rfl
    exact ⟨_, fd, F, He.glo_ok X G (c.fact 24 (f := .glo "unlike_turns") rfl)⟩
  d_ring_by := by
    obtain ⟨fd, F⟩ := c.def_ 25 (d := d_ring_by) rfl
    exact ⟨_, fd, F, He.glo_ok X G (c.fact 25 (f := .glo "ring_by") rfl)⟩
  d_divisors_of := by
    obtain ⟨fd, F⟩ := c.def_ 26 (d := d_divisors_of) rfl
    exact ⟨_, fd, F, He.glo_ok X G (c.fact 26 (f := .glo "divisors_of") rfl)⟩
  d_root_by := by
    obtain ⟨fd, F⟩ := c.def_ 27 (d := d_root_by) rfl
    exact ⟨_, fd, F, He.glo_ok X G (c.fact 27 (f := .glo "root_by") rfl)⟩
  d_is_whole_by := by
    obtain ⟨fd, F⟩ := c.def_ 28 (d := d_is_whole_by) rfl
    exact ⟨_, fd, F, He.glo_ok X G (c.fact 28 (f := .glo "is_whole_by") rfl)⟩
  d_ends_of := by
    obtain ⟨fd, F⟩ := c.def_ 29 (d := d_ends_of) rfl
    exact ⟨_, fd, F, He.glo_ok X G (c.fact 29 (f := .glo "ends_of") rfl)⟩
  d_is_least_by := by
    obtain ⟨fd, F⟩ := c.def_ 30 (d := d_is_least_by) rfl
    exact ⟨_, fd, F, He.glo_ok X G (c.fact 30 (f := .glo "is_least_by") rfl)⟩
  d_least_of_length := by
    obtain ⟨fd, F⟩ := c.def_ 31 (d := d_least_of_length) rfl
    exact ⟨_, fd, F, He.glo_ok X G (c.fact 31 (f := .glo "least_of_length") rfl)⟩
  d_is_least := by
    obtain ⟨fd, F⟩ := c.def_ 32 (d := d_is_least) rfl
    exact ⟨_, fd, F, He.glo_ok X G (c.fact 32 (f := .glo "is_least") rfl)⟩
  d_least_words := by
    obtain ⟨fd, F⟩ := c.def_ 33 (d := d_least_words) rfl
    exact ⟨_, fd, F, He.glo_ok X G (c.fact 33 (f := .glo "least_words") rfl)⟩
  d_all_turns := by
    obtain ⟨fd, F⟩ := c.def_ 34 (d := d_all_turns) rfl
    exact ⟨_, fd, F, He.glo_ok X G (c.fact 34 (f := .glo "all_turns") rfl)⟩
  d_ring := by
    obtain ⟨fd, F⟩ := c.def_ 35 (d := d_ring) rfl
    exact ⟨_, fd, F, He.glo_ok X G (c.fact 35 (f := .glo "ring") rfl)⟩
  d_is_whole := by
    obtain ⟨fd, F⟩ := c.def_ 36 (d := d_is_whole) rfl
    exact ⟨_, fd, F, He.glo_ok X G (c.fact 36 (f := .glo "is_whole") rfl)⟩
  d_is_whole_turns := by
    obtain ⟨fd, F⟩ := c.def_ 37 (d := d_is_whole_turns) rfl
    exact ⟨_, fd, F, He.glo_ok X G (c.fact 37 (f := .glo "is_whole_turns") rfl)⟩
  d__law_well := by
    obtain ⟨fd, F⟩ := c.def_ 38 (d := d__law_well) rfl
    exact ⟨_, fd, F, He.glo_ok X G (c.fact 38 (f := .glo "_law_well") rfl)⟩
  d__law_take := by
    obtain ⟨fd, F⟩ := c.def_ 39 (d := d__law_take) rfl
    exact ⟨_, fd, F, He.glo_ok X G (c.fact 39 (f := .glo "_law_take") rfl)⟩
  d__law_same := by
    obtain ⟨fd, F⟩ := c.def_ 40 (d := d__law_same) rfl
    exact ⟨_, fd, F, He.glo_ok X G (c.fact 40 (f := .glo "_law_same") rfl)⟩
  d__law_word := by
    obtain ⟨fd, F⟩ := c.def_ 41 (d := d__law_word) rfl
    exact ⟨_, fd, F, He.glo_ok X G (c.fact 41 (f := .glo "_law_word") rfl)⟩
  d__law_words := by
    obtain ⟨fd, F⟩ := c.def_ 42 (d := d__law_words) rfl
    exact ⟨_, fd, F, He.glo_ok X G (c.fact 42 (f := .glo "_law_words") rfl)⟩
  d__law_borders := by
    obtain ⟨fd, F⟩ := c.def_ 43 (d := d__law_borders) rfl
    exact ⟨_, fd, F, He.glo_ok X G (c.fact 43 (f := .glo "_law_borders") rfl)⟩
  d__law_power := by
    obtain ⟨fd, F⟩ := c.def_ 44 (d := d__law_power) rfl
    exact ⟨_, fd, F, He.glo_ok X G (c.fact 44 (f := .glo "_law_power") rfl)⟩
  d__law_counts := by
    obtain ⟨fd, F⟩ := c.def_ 45 (d := d__law_counts) rfl
    exact ⟨_, fd, F, He.glo_ok X G (c.fact 45 (f := .glo "_law_counts") rfl)⟩
  d__law_asked := by
    obtain ⟨fd, F⟩ := c.def_ 46 (d := d__law_asked) rfl
    exact ⟨_, fd, F, He.glo_ok X G (c.fact 46 (f := .glo "_law_asked") rfl)⟩
  d_law := by
    obtain ⟨fd, F⟩ := c.def_ 47 (d := d_law) rfl
    exact ⟨_, fd, F, He.glo_ok X G (c.fact 47 (f := .glo "law") rfl)⟩
section
variable {P : Program} {w : World} {K : PySem.W.Frag} {mg : Str → Option Value} {base : Heap}
def m_is_whole_values (value : D) : Bool := ((isIntB value) && (!(isBool value)))
theorem ok_is_whole_values (T : Tx K mg) : Fn P w K mg base 1 "is_whole_values" ["value"] (spF K (fun x : D => [x]) (fun value : D => tyD value ≠ "") fun x d => d = (bD (m_is_whole_values x))) := by
  have hN : (["value"] : List Str).Nodup := by decide +kernel
  refine Fn.mkF (Nm := ["value"]) T.d_is_whole_values ⟨rfl, rfl, rfl, hN, rfl, by decide +kernel, by decide +kernel⟩ (fun _ _ _ _ _ _ us hl => match us, hl with | [_], _ => rfl) (fun a => rfl) fun value hp O0 H0 f cdv A0 outer s H E hr => ?_
  have hp : tyD value ≠ "" := hp
  show WB _ _ [.dat value] _ (Er (bD ((isIntB value) && (!(isBool value)))))
  exact wb_retE (ev_and (ev_isi T.b_isinstance T.b_int (ev_var 0) (kit_all (by /-0-/ trivial)).1 (by /-1-/ trivial)) (fun h1 => (ev_one (ev_not (ev_isi T.b_isinstance T.b_bool (ev_var 0) (kit_all (by /-2-/ trivial)).2.1 (by /-3-/ trivial))))))
def m_is_between (value : Int) (low : Int) (high : Int) : Bool := ((m_is_whole_values (iD value)) && ((decide (low ≤ value)) && (decide (value ≤ high))))
theorem ok_is_between (T : Tx K mg) : Fn P w K mg base 2 "is_between" ["value", "low", "high"] (spF K (fun x : Int × Int × Int => [(iD x.1), (iD x.2.1), (iD x.2.2)]) (fun x : Int × Int × Int => match x with | (value, low, high) => True) fun x d => d = (bD (m_is_between x.1 x.2.1 x.2.2))) := by
  have hN : (["value", "low", "high"] : List Str).Nodup := by decide +kernel
  refine Fn.mkF (Nm := ["value", "low", "high"]) T.d_is_between ⟨rfl, rfl, rfl, hN, rfl, by decide +kernel, by decide +kernel⟩ (fun _ _ _ _ _ _ us hl => match us, hl with | [_, _, _], _ => rfl) (fun a => rfl) fun a hp O0 H0 f cdv A0 outer s H E hr => ?_
  obtain ⟨value, low, high⟩ := a
  show WB _ _ [.dat (iD value), .dat (iD low), .dat (iD high)] _ (Er (bD ((m_is_whole_values (iD value)) && ((decide (low ≤ value)) && (decide (value ≤ high))))))
  exact wb_retE (ev_and (ev_call (ok_is_whole_values T) hr (ea_cons (ev_var 0) ea_nil) ⟨(iD value), rfl, (by /-0-/ trivial), rfl⟩) (fun h1 => (ev_one (ev_ch (ev_var 1) (ev_var 0) cp_le (fun _ => (ev_var 2)) (fun _ => cp_le)))))
def m_is_text_of (value : W) (signs : W) : Bool := ((isStr (wD value)) && (List.all (List.map (fun (sign : Nat) => (decide (sign ∈ signs))) value) id))
theorem ok_is_text_of (T : Tx K mg) : Fn P w K mg base 1 "is_text_of" ["value", "signs"] (spF K (fun x : W × W => [(wD x.1), (wD x.2)]) (fun x : W × W => match x with | (value, signs) => value.length ≤ 4096) fun x d => d = (bD (m_is_text_of x.1 x.2))) := by
  have hN : (["value", "signs", "sign"] : List Str).Nodup := by decide +kernel
  refine Fn.mkF (Nm := ["value", "signs", "sign"]) T.d_is_text_of ⟨rfl, rfl, rfl, hN, rfl, by decide +kernel, by decide +kernel⟩ (fun _ _ _ _ _ _ us hl => match us, hl with | [_, _], _ => rfl) (fun a => rfl) fun a hp O0 H0 f cdv A0 outer s H E hr => ?_
  obtain ⟨value, signs⟩ := a
  have hp : value.length ≤ 4096 := hp
  show WB _ _ [.dat (wD value), .dat (wD signs), .un] _ (Er (bD ((isStr (wD value)) && (List.all (List.map (fun (sign : Nat) => (decide (sign ∈ signs))) value) id))))
  exact wb_retE (ev_and (ev_isi T.b_isinstance T.b_str (ev_var 0) (kit_all (by /-0-/ trivial)).2.2.1 (by /-1-/ trivial)) (fun h3 => (ev_one (ev_allT T.b_all (EvN.ev (evn_lc1M [("sign", 2)] (Lc1.mk (q := fun (sign : Nat) => true) (g := eC) (f := fun (sign : Nat) => (decide (sign ∈ signs))) (ec := eB) (ei_strT (ev_var 0)) hN (by /-2-/ trivial) (fun sign h1 _ _ _ _ _ => (eg_name 2 hN)) (fun sign h1 _ _ _ _ _ => wq_nil) (fun sign h1 h2 _ _ _ _ _ => (ev_c (ev_var 2) (ev_var 1) cp_inW)))))))))
def m_power_of (number : Int) (many : Int) : Int := (List.foldl (fun (s0 : Int) (u0 : Int) => (s0 * number)) (1 : Int) (rngI 0 many))
theorem ok_power_of (T : Tx K mg) : Fn P w K mg base 1 "power_of" ["number", "many"] (spF K (fun x : Int × Int => [(iD x.1), (iD x.2)]) (fun x : Int × Int => match x with | (number, many) => 0 ≤ number ∧ number ≤ 1000 ∧ 0 ≤ many ∧ many ≤ 1000) fun x d => d = (iD (m_power_of x.1 x.2))) := by
  have hN : (["number", "many", "found", "_"] : List Str).Nodup := by decide +kernel
  refine Fn.mkF (Nm := ["number", "many", "found", "_"]) T.d_power_of ⟨rfl, rfl, rfl, hN, rfl, by decide +kernel, by decide +kernel⟩ (fun _ _ _ _ _ _ us hl => match us, hl with | [_, _], _ => rfl) (fun a => rfl) fun a hp O0 H0 f cdv A0 outer s H E hr => ?_
  obtain ⟨number, many⟩ := a
  have hp : 0 ≤ number ∧ number ≤ 1000 ∧ 0 ≤ many ∧ many ≤ 1000 := hp
  obtain ⟨p1, p2, p3, p4⟩ := (show 0 ≤ number ∧ number ≤ 1000 ∧ 0 ≤ many ∧ many ≤ 1000 from hp)
  show WB _ _ [.dat (iD number), .dat (iD many), .un, .un] _ (Er (iD (List.foldl (fun (s0 : Int) (u0 : Int) => (s0 * number)) (1 : Int) (rngI 0 many))))
  refine wb_let 2 ev_int ?_ hN
  refine wb_for (g := eI) (fun s0 : Int => [.dat (iD number), .dat (iD many), .dat (iD s0), .un]) (fun (s0 : Int) (u0 : Int) => (s0 * number)) (1 : Int) (fun (i0 : Nat) (s0 : Int) => True) (ei_rng1T T.b_range (ev_var 1) (by /-0-/ trivial)) ⟨.inl rfl, .inl rfl, .inl rfl, .inr rfl, trivial⟩ (by trivial) (fun i0 u0 s0 ha0 hJ0 hs0 => ⟨(by trivial), EvG.wg (eg_name 3 hN) ?_⟩) (fun hk0 => ?_)
  ·
    refine wb_let 2 (ev_mulI (ev_var 2) (ev_var 0) (by /-1-/ trivial)) ?_ hN
    exact wb_goC (R := Unit) ⟨.inl rfl, .inl rfl, .inl rfl, .inr rfl, trivial⟩
  exact wb_retE (ev_var 2)
def m_is_letter_number (value : Int) : Bool := (m_is_between value (1 : Int) (3 : Int))
theorem ok_is_letter_number (T : Tx K mg) : Fn P w K mg base 3 "is_letter_number" ["value"] (spF K (fun x : Int => [(iD x)]) (fun value : Int => True) fun x d => d = (bD (m_is_letter_number x))) := by
  have hN : (["value"] : List Str).Nodup := by decide +kernel
  refine Fn.mkF (Nm := ["value"]) T.d_is_letter_number ⟨rfl, rfl, rfl, hN, rfl, by decide +kernel, by decide +kernel⟩ (fun _ _ _ _ _ _ us hl => match us, hl with | [_], _ => rfl) (fun a => rfl) fun value hp O0 H0 f cdv A0 outer s H E hr => ?_
  show WB _ _ [.dat (iD value)] _ (Er (bD (m_is_between value (1 : Int) (3 : Int))))
  exact wb_retE (ev_call (ok_is_between T) hr (ea_cons (ev_var 0) (ea_cons ev_int (ea_cons (ev_gI (i := 3) T.c_MOST_LETTERS) ea_nil))) ⟨(value, (1 : Int), (3 : Int)), rfl, (by /-0-/ trivial), rfl⟩)
def m_letters_of (number : Int) : W := (cutL ([97, 98, 99] : W) none (some number))
theorem ok_letters_of (T : Tx K mg) : Fn P w K mg base 1 "letters_of" ["number"] (spF K (fun x : Int => [(iD x)]) (fun number : Int => True) fun x d => d = (wD (m_letters_of x))) := by
  have hN : (["number"] : List Str).Nodup := by decide +kernel
  refine Fn.mkF (Nm := ["number"]) T.d_letters_of ⟨rfl, rfl, rfl, hN, rfl, by decide +kernel, by decide +kernel⟩ (fun _ _ _ _ _ _ us hl => match us, hl with | [_], _ => rfl) (fun a => rfl) fun number hp O0 H0 f cdv A0 outer s H E hr => ?_
  show WB _ _ [.dat (iD number)] _ (Er (wD (cutL ([97, 98, 99] : W) none (some number))))
  exact wb_retE (ev_slW (ev_gW ([97, 98, 99] : W) T.c_LETTERS) eo_none (eo_some (ev_var 0)) (by /-0-/ trivial))
def m_is_word_of (number : Int) (value : W) : Bool := ((m_is_text_of value (m_letters_of number)) && (decide ((value.length : Int) ≤ (12 : Int))))
theorem ok_is_word_of (T : Tx K mg) : Fn P w K mg base 2 "is_word_of" ["number", "value"] (spF K (fun x : Int × W => [(iD x.1), (wD x.2)]) (fun x : Int × W => match x with | (number, value) => value.length ≤ 4096) fun x d => d = (bD (m_is_word_of x.1 x.2))) := by
  have hN : (["number", "value"] : List Str).Nodup := by decide +kernel
  refine Fn.mkF (Nm := ["number", "value"]) T.d_is_word_of ⟨rfl, rfl, rfl, hN, rfl, by decide +kernel, by decide +kernel⟩ (fun _ _ _ _ _ _ us hl => match us, hl with | [_, _], _ => rfl) (fun a => rfl) fun a hp O0 H0 f cdv A0 outer s H E hr => ?_
  obtain ⟨number, value⟩ := a
  have hp : value.length ≤ 4096 := hp
  show WB _ _ [.dat (iD number), .dat (wD value)] _ (Er (bD ((m_is_text_of value (m_letters_of number)) && (decide ((value.length : Int) ≤ (12 : Int))))))
  exact wb_retE (ev_and (ev_call (ok_is_text_of T) hr (ea_cons (ev_var 1) (ea_cons (ev_call (ok_letters_of T) hr (ea_cons (ev_var 0) ea_nil) ⟨number, rfl, (by /-0-/ trivial), rfl⟩) ea_nil)) ⟨(value, (m_letters_of number)), rfl, (by /-1-/ dsimp only; trivial), rfl⟩) (fun h1 => (ev_one (ev_c (ev_lenW T.b_len (ev_var 1) (by /-2-/ trivial)) (ev_gI (i := 12) T.c_LONGEST) cp_le))))
def m_is_worded (value : W) : Bool := (m_is_word_of (3 : Int) value)
theorem ok_is_worded (T : Tx K mg) : Fn P w K mg base 3 "is_worded" ["value"] (spF K (fun x : W => [(wD x)]) (fun value : W => value.length ≤ 4096) fun x d => d = (bD (m_is_worded x))) := by
  have hN : (["value"] : List Str).Nodup := by decide +kernel
  refine Fn.mkF (Nm := ["value"]) T.d_is_worded ⟨rfl, rfl, rfl, hN, rfl, by decide +kernel, by decide +kernel⟩ (fun _ _ _ _ _ _ us hl => match us, hl with | [_], _ => rfl) (fun a => rfl) fun value hp O0 H0 f cdv A0 outer s H E hr => ?_
  have hp : value.length ≤ 4096 := hp
  show WB _ _ [.dat (wD value)] _ (Er (bD (m_is_word_of (3 : Int) value)))
  exact wb_retE (ev_call (ok_is_word_of T) hr (ea_cons (ev_gI (i := 3) T.c_MOST_LETTERS) (ea_cons (ev_var 0) ea_nil)) ⟨((3 : Int), value), rfl, (by /-0-/ dsimp only; trivial), rfl⟩)
theorem letters_len (number : Int) : (m_letters_of number).length ≤ 3 := Nat.le_trans (cutL_len _ _ _) (by decide)
def m_all_words (number : Int) (size : Int) : (List W) := (List.foldl (fun (s0 : (List W)) (u0 : Int) => (List.flatMap (fun (word : W) => List.map (fun (letter : Nat) => (word ++ [letter])) (m_letters_of number)) s0)) [([] : W)] (rngI 0 size))
theorem ok_all_words (T : Tx K mg) : Fn P w K mg base 2 "all_words" ["number", "size"] (spF K (fun x : Int × Int => [(iD x.1), (iD x.2)]) (fun x : Int × Int => match x with | (number, size) => 0 ≤ size ∧ size ≤ 8) fun x d => d = ((eL eW) (m_all_words x.1 x.2))) := by
  have hN : (["number", "size", "found", "_", "word", "letter"] : List Str).Nodup := by decide +kernel
  refine Fn.mkF (Nm := ["number", "size", "found", "_", "word", "letter"]) T.d_all_words ⟨rfl, rfl, rfl, hN, rfl, by decide +kernel, by decide +kernel⟩ (fun _ _ _ _ _ _ us hl => match us, hl with | [_, _], _ => rfl) (fun a => rfl) fun a hp O0 H0 f cdv A0 outer s H E hr => ?_
  obtain ⟨number, size⟩ := a
  have hp : 0 ≤ size ∧ size ≤ 8 := hp
  obtain ⟨p1, p2⟩ := (show 0 ≤ size ∧ size ≤ 8 from hp)
  show WB _ _ [.dat (iD number), .dat (iD size), .un, .un, .un, .un] _ (Er ((eL eW) (List.foldl (fun (s0 : (List W)) (u0 : Int) => (List.flatMap (fun (word : W) => List.map (fun (letter : Nat) => (word ++ [letter])) (m_letters_of number)) s0)) [([] : W)] (rngI 0 size))))
  refine wb_let 2 (EvN.ev (evn_lstT (en := eW) (l := [([] : W)]) (ea_cons (ev_str ([] : W)) ea_nil))) ?_ hN
  refine wb_for (g := eI) (fun s0 : (List W) => [.dat (iD number), .dat (iD size), .dat ((eL eW) s0), .un, .un, .un]) (fun (s0 : (List W)) (u0 : Int) => (List.flatMap (fun (word : W) => List.map (fun (letter : Nat) => (word ++ [letter])) (m_letters_of number)) s0)) [([] : W)] (fun (i0 : Nat) (s0 : (List W)) => s0.length ≤ 3 ^ i0 ∧ ∀ w ∈ s0, w.length ≤ i0) (ei_rng1T T.b_range (ev_var 1) (by /-0-/ trivial)) ⟨.inl rfl, .inl rfl, .inl rfl, .inr rfl, .inr rfl, .inr rfl, trivial⟩ (by exact ⟨by simp, by simp⟩) (fun i0 u0 s0 ha0 hJ0 hs0 => ⟨(by exact aw_step (letters_len _) hJ0), EvG.wg (eg_name 3 hN) ?_⟩) (fun hk0 => ?_)
  ·
    refine wb_let2M 2 [("word", 4), ("letter", 5)] [5] (Lc2.mk (g := eW) (ys := fun (word : W) => (m_letters_of number)) (eb := eC) (q2 := fun (word : W) (letter : Nat) => true) (f2 := fun (word : W) (letter : Nat) => (word ++ [letter])) (ec := eW) (ei_listT (en := eW) (ev_var 2)) hN (by /-3-/ exact aw_sz (letters_len _) (rng_at ha0 hp.2) hJ0.1) (fun word h1 _ _ _ _ _ => (eg_name 4 hN)) (fun word h1 _ _ _ _ _ => (ei_strT (ev_call (ok_letters_of T) hr (ea_cons (ev_var 0) ea_nil) ⟨number, rfl, (by /-1-/ trivial), rfl⟩))) (fun word h1 letter h2 _ _ _ _ _ => (eg_name 5 hN)) (fun word h1 letter h2 _ _ _ _ _ => wq_nil) (fun word h1 letter h2 h3 _ _ _ _ _ => (ev_addW (ev_var 4) (ev_var 5) (by /-2-/ exact aw_len (rng_at ha0 hp.2) (hJ0.2 _ h1))))) ?_
    exact wb_goC (R := Unit) ⟨.inl rfl, .inl rfl, .inl rfl, .inr rfl, .inr rfl, .inr rfl, trivial⟩
  exact wb_retE (ev_var 2)
def m_borders_by (word : W) : (List W) := (List.map (fun (size : Int) => (cutL word none (some size))) (List.filter (fun (size : Int) => (decide ((cutL word none (some size)) = (cutL word (some ((word.length : Int) - size)) none)))) (rngI (1 : Int) (word.length : Int))))
theorem ok_borders_by (T : Tx K mg) : Fn P w K mg base 1 "borders_by" ["word"] (spF K (fun x : W => [(wD x)]) (fun word : W => word.length ≤ 4096) fun x d => d = ((eL eW) (m_borders_by x))) := by
  have hN : (["word", "size"] : List Str).Nodup := by decide +kernel
  refine Fn.mkF (Nm := ["word", "size"]) T.d_borders_by ⟨rfl, rfl, rfl, hN, rfl, by decide +kernel, by decide +kernel⟩ (fun _ _ _ _ _ _ us hl => match us, hl with | [_], _ => rfl) (fun a => rfl) fun word hp O0 H0 f cdv A0 outer s H E hr => ?_
  have hp : word.length ≤ 4096 := hp
  show WB _ _ [.dat (wD word), .un] _ (Er ((eL eW) (List.map (fun (size : Int) => (cutL word none (some size))) (List.filter (fun (size : Int) => (decide ((cutL word none (some size)) = (cutL word (some ((word.length : Int) - size)) none)))) (rngI (1 : Int) (word.length : Int))))))
  exact wb_retE (EvN.ev (evn_lc1 [("size", 1)] (Lc1.mk (q := fun (size : Int) => (decide ((cutL word none (some size)) = (cutL word (some ((word.length : Int) - size)) none)))) (g := eI) (f := fun (size : Int) => (cutL word none (some size))) (ec := eW) (ei_rng2T T.b_range ev_int (ev_lenW T.b_len (ev_var 0) (by /-0-/ trivial)) (by /-1-/ trivial)) hN (by /-6-/ trivial) (fun size h1 _ _ _ _ _ => (eg_name 1 hN)) (fun size h1 _ _ _ _ _ => (wq_one (et_c (ev_slW (ev_var 0) eo_none (eo_some (ev_var 1)) (by /-2-/ trivial)) (ev_slW (ev_var 0) (eo_some (ev_subI (ev_lenW T.b_len (ev_var 0) (by /-3-/ trivial)) (ev_var 1))) eo_none (by /-4-/ trivial)) cp_eqW))) (fun size h1 h2 _ _ _ _ _ => (ev_slW (ev_var 0) eo_none (eo_some (ev_var 1)) (by /-5-/ trivial))))))
theorem all_words_eq (n size : Int) : m_all_words n size = awF (m_letters_of n) (rngI 0 size) [[]] := rfl
theorem all_words_len {n size : Int} (h : size ≤ 8) : (m_all_words n size).length ≤ 6561 := aw_count (letters_len n) h
theorem all_words_mem {n size : Int} {w : W} : w ∈ m_all_words n size ↔ w.length = size.toNat ∧ ∀ c ∈ w, c ∈ m_letters_of n := aw_iff
theorem bb_len (w : W) : (m_borders_by w).length ≤ w.length := by
  unfold m_borders_by
  rw [List.length_map]
  refine Nat.le_trans (List.length_filter_le _ _) ?_
  rw [rngI_length]; omega
theorem bb_mem {w v : W} (h : v ∈ m_borders_by w) : v.length ≤ w.length := by
  unfold m_borders_by at h
  obtain ⟨k, _, rfl⟩ := List.mem_map.mp h
  exact cutL_len _ _ _
def m_periods_by (word : W) : (List Int) := ((List.map (fun (border : W) => ((word.length : Int) - (border.length : Int))) (List.reverse (m_borders_by word))) ++ [(word.length : Int)])
theorem ok_periods_by (T : Tx K mg) : Fn P w K mg base 2 "periods_by" ["word"] (spF K (fun x : W => [(wD x)]) (fun word : W => word.length ≤ 4096 ∧ word ≠ []) fun x d => d = ((eL eI) (m_periods_by x))) := by
  have hN : (["word", "border"] : List Str).Nodup := by decide +kernel
  refine Fn.mkF (Nm := ["word", "border"]) T.d_periods_by ⟨rfl, rfl, rfl, hN, rfl, by decide +kernel, by decide +kernel⟩ (fun _ _ _ _ _ _ us hl => match us, hl with | [_], _ => rfl) (fun a => rfl) fun word hp O0 H0 f cdv A0 outer s H E hr => ?_
  have hp : word.length ≤ 4096 ∧ word ≠ [] := hp
  obtain ⟨p1, p2⟩ := (show word.length ≤ 4096 ∧ word ≠ [] from hp)
  show WB _ _ [.dat (wD word), .un] _ (Er ((eL eI) ((List.map (fun (border : W) => ((word.length : Int) - (border.length : Int))) (List.reverse (m_borders_by word))) ++ [(word.length : Int)])))
  exact wb_retE (ev_catt (en := eI) (EvN.ev (evn_lc1M [("border", 1)] (Lc1.mk (q := fun (border : W) => true) (g := eW) (f := fun (border : W) => ((word.length : Int) - (border.length : Int))) (ec := eI) (ei_listT (en := eW) (EvN.ev (evn_revL (en := eW) (ev_call (ok_borders_by T) hr (ea_cons (ev_var 0) ea_nil) ⟨word, rfl, (by /-0-/ trivial), rfl⟩)))) hN (by /-3-/ have := bb_len word; rw [List.length_reverse]; exact sl_le (by omega)) (fun border h1 _ _ _ _ _ => (eg_name 1 hN)) (fun border h1 _ _ _ _ _ => wq_nil) (fun border h1 h2 _ _ _ _ _ => (ev_subI (ev_lenW T.b_len (ev_var 0) (by /-1-/ exact sl_le (by omega))) (ev_lenW T.b_len (ev_var 1) (by /-2-/ have := bb_mem (List.mem_reverse.mp h1); exact sl_le (by omega)))))))) (EvN.ev (evn_lstT (en := eI) (l := [(word.length : Int)]) (ea_cons (ev_lenW T.b_len (ev_var 0) (by /-4-/ trivial)) ea_nil))) (by /-5-/ have := bb_len word; rw [List.length_map, List.length_reverse]; exact sl_le (by simp only [List.length_cons, List.length_nil]; omega)))
theorem per_ne (w : W) : m_periods_by w ≠ [] := by unfold m_periods_by; simp
def m_least_period_by (word : W) : Int := (ix (m_periods_by word) (0 : Int))
theorem ok_least_period_by (T : Tx K mg) : Fn P w K mg base 3 "least_period_by" ["word"] (spF K (fun x : W => [(wD x)]) (fun word : W => word.length ≤ 4096 ∧ word ≠ []) fun x d => d = (iD (m_least_period_by x))) := by
  have hN : (["word"] : List Str).Nodup := by decide +kernel
  refine Fn.mkF (Nm := ["word"]) T.d_least_period_by ⟨rfl, rfl, rfl, hN, rfl, by decide +kernel, by decide +kernel⟩ (fun _ _ _ _ _ _ us hl => match us, hl with | [_], _ => rfl) (fun a => rfl) fun word hp O0 H0 f cdv A0 outer s H E hr => ?_
  have hp : word.length ≤ 4096 ∧ word ≠ [] := hp
  obtain ⟨p1, p2⟩ := (show word.length ≤ 4096 ∧ word ≠ [] from hp)
  show WB _ _ [.dat (wD word)] _ (Er (iD (ix (m_periods_by word) (0 : Int))))
  exact wb_retE (ev_ixLt (en := eI) (ev_call (ok_periods_by T) hr (ea_cons (ev_var 0) ea_nil) ⟨word, rfl, (by /-0-/ trivial), rfl⟩) ev_int (by /-1-/ exact inR_zero (per_ne word)))
def m_over_by (number : Int) (word : W) (other : W) : Int := (List.sum (List.map (fun (size : Int) => (m_power_of number (size - (1 : Int)))) (List.filter (fun (size : Int) => (decide ((cutL word (some ((word.length : Int) - size)) none) = (cutL other none (some size))))) (rngI (1 : Int) ((min (word.length : Int) (other.length : Int)) + (1 : Int))))))
theorem ok_over_by (T : Tx K mg) : Fn P w K mg base 2 "over_by" ["number", "word", "other"] (spF K (fun x : Int × W × W => [(iD x.1), (wD x.2.1), (wD x.2.2)]) (fun x : Int × W × W => match x with | (number, word, other) => 0 ≤ number ∧ number ≤ 1000 ∧ word.length ≤ 900 ∧ other.length ≤ 900) fun x d => d = (iD (m_over_by x.1 x.2.1 x.2.2))) := by
  have hN : (["number", "word", "other", "sizes", "size"] : List Str).Nodup := by decide +kernel
  refine Fn.mkF (Nm := ["number", "word", "other", "sizes", "size"]) T.d_over_by ⟨rfl, rfl, rfl, hN, rfl, by decide +kernel, by decide +kernel⟩ (fun _ _ _ _ _ _ us hl => match us, hl with | [_, _, _], _ => rfl) (fun a => rfl) fun a hp O0 H0 f cdv A0 outer s H E hr => ?_
  obtain ⟨number, word, other⟩ := a
  have hp : 0 ≤ number ∧ number ≤ 1000 ∧ word.length ≤ 900 ∧ other.length ≤ 900 := hp
  obtain ⟨p1, p2, p3, p4⟩ := (show 0 ≤ number ∧ number ≤ 1000 ∧ word.length ≤ 900 ∧ other.length ≤ 900 from hp)
  show WB _ _ [.dat (iD number), .dat (wD word), .dat (wD other), .un, .un] _ (Er (iD (List.sum (List.map (fun (size : Int) => (m_power_of number (size - (1 : Int)))) (List.filter (fun (size : Int) => (decide ((cutL word (some ((word.length : Int) - size)) none) = (cutL other none (some size))))) (rngI (1 : Int) ((min (word.length : Int) (other.length : Int)) + (1 : Int))))))))
  refine wb_let 3 (ev_rng2 T.b_range ev_int (ev_addI (ev_min2 T.b_min (ev_lenW T.b_len (ev_var 1) (by /-0-/ trivial)) (ev_lenW T.b_len (ev_var 2) (by /-1-/ trivial))) ev_int)) ?_ hN
  exact wb_retE (ev_sumT T.b_sum (EvN.ev (evn_lc1 [("size", 4)] (Lc1.mk (q := fun (size : Int) => (decide ((cutL word (some ((word.length : Int) - size)) none) = (cutL other none (some size))))) (g := eI) (f := fun (size : Int) => (m_power_of number (size - (1 : Int)))) (ec := eI) (ei_rngVT (ev_var 3) (by /-2-/ trivial)) hN (by /-7-/ trivial) (fun size h1 _ _ _ _ _ => (eg_name 4 hN)) (fun size h1 _ _ _ _ _ => (wq_one (et_c (ev_slW (ev_var 1) (eo_some (ev_subI (ev_lenW T.b_len (ev_var 1) (by /-3-/ trivial)) (ev_var 4))) eo_none (by /-4-/ trivial)) (ev_slW (ev_var 2) eo_none (eo_some (ev_var 4)) (by /-5-/ trivial)) cp_eqW))) (fun size h1 h2 _ _ _ _ _ => (ev_call (ok_power_of T) hr (ea_cons (ev_var 0) (ea_cons (ev_subI (ev_var 4) ev_int) ea_nil)) ⟨(number, (size - (1 : Int))), rfl, (by /-6-/ dsimp only; trivial), rfl⟩))))))
def m_mean_wait_by (number : Int) (word : W) : Int := (number * (m_over_by number word word))
theorem ok_mean_wait_by (T : Tx K mg) : Fn P w K mg base 3 "mean_wait_by" ["number", "word"] (spF K (fun x : Int × W => [(iD x.1), (wD x.2)]) (fun x : Int × W => match x with | (number, word) => 0 ≤ number ∧ number ≤ 1000 ∧ word.length ≤ 900) fun x d => d = (iD (m_mean_wait_by x.1 x.2))) := by
  have hN : (["number", "word"] : List Str).Nodup := by decide +kernel
  refine Fn.mkF (Nm := ["number", "word"]) T.d_mean_wait_by ⟨rfl, rfl, rfl, hN, rfl, by decide +kernel, by decide +kernel⟩ (fun _ _ _ _ _ _ us hl => match us, hl with | [_, _], _ => rfl) (fun a => rfl) fun a hp O0 H0 f cdv A0 outer s H E hr => ?_
  obtain ⟨number, word⟩ := a
  have hp : 0 ≤ number ∧ number ≤ 1000 ∧ word.length ≤ 900 := hp
  obtain ⟨p1, p2, p3⟩ := (show 0 ≤ number ∧ number ≤ 1000 ∧ word.length ≤ 900 from hp)
  show WB _ _ [.dat (iD number), .dat (wD word)] _ (Er (iD (number * (m_over_by number word word))))
  exact wb_retE (ev_mulI (ev_var 0) (ev_call (ok_over_by T) hr (ea_cons (ev_var 0) (ea_cons (ev_var 1) (ea_cons (ev_var 1) ea_nil))) ⟨(number, word, word), rfl, (by /-0-/ dsimp only; trivial), rfl⟩) (by /-1-/ trivial))
def m_check_word (word : W) : Unit := (if (!(m_is_worded word)) then default else ())
theorem ok_check_word (T : Tx K mg) : Fn P w K mg base 4 "check_word" ["word"] (spF K (fun x : W => [(wD x)]) (fun word : W => word.length ≤ 4096 ∧ m_is_worded word = true) fun x d => d = nD) := by
  have hN : (["word"] : List Str).Nodup := by decide +kernel
  refine Fn.mkF (Nm := ["word"]) T.d_check_word ⟨rfl, rfl, rfl, hN, rfl, by decide +kernel, by decide +kernel⟩ (fun _ _ _ _ _ _ us hl => match us, hl with | [_], _ => rfl) (fun a => rfl) fun word hp O0 H0 f cdv A0 outer s H E hr => ?_
  have hp : word.length ≤ 4096 ∧ m_is_worded word = true := hp
  obtain ⟨p1, p2⟩ := (show word.length ≤ 4096 ∧ m_is_worded word = true from hp)
  show WB _ _ [.dat (wD word)] _ (Er nD)
  refine wb_ifG (F := fun m => Er (eN m)) (b1 := ()) (b2 := ()) (et_not (et_val (ev_call (ok_is_worded T) hr (ea_cons (ev_var 0) ea_nil) ⟨word, rfl, (by /-0-/ trivial), rfl⟩))) (fun h1 => ?_) (fun h1 => ?_)
  ·
    exact wb_never (by /-1-/ trivial)
  ·
    exact wb_endE
def m_check_filled_word (word : W) : Unit := (if (decide (word = ([] : W))) then default else ())
theorem ok_check_filled_word (T : Tx K mg) : Fn P w K mg base 5 "check_filled_word" ["word"] (spF K (fun x : W => [(wD x)]) (fun word : W => word.length ≤ 4096 ∧ word ≠ [] ∧ m_is_worded word = true) fun x d => d = nD) := by
  have hN : (["word"] : List Str).Nodup := by decide +kernel
  refine Fn.mkF (Nm := ["word"]) T.d_check_filled_word ⟨rfl, rfl, rfl, hN, rfl, by decide +kernel, by decide +kernel⟩ (fun _ _ _ _ _ _ us hl => match us, hl with | [_], _ => rfl) (fun a => rfl) fun word hp O0 H0 f cdv A0 outer s H E hr => ?_
  have hp : word.length ≤ 4096 ∧ word ≠ [] ∧ m_is_worded word = true := hp
  obtain ⟨p1, p2, p3⟩ := (show word.length ≤ 4096 ∧ word ≠ [] ∧ m_is_worded word = true from hp)
  show WB _ _ [.dat (wD word)] _ (Er nD)
  refine wb_expr (ev_call (ok_check_word T) hr (ea_cons (ev_var 0) ea_nil) ⟨word, rfl, (by /-0-/ trivial), rfl⟩) ?_
  refine wb_ifG (F := fun m => Er (eN m)) (b1 := ()) (b2 := ()) (et_c (ev_var 0) (ev_str ([] : W)) cp_eqW) (fun h1 => ?_) (fun h1 => ?_)
  ·
    exact wb_never (by /-1-/ trivial)
  ·
    exact wb_endE
def m_check_letters (number : Int) : Unit := (if (!(m_is_letter_number number)) then default else ())
theorem ok_check_letters (T : Tx K mg) : Fn P w K mg base 4 "check_letters" ["number"] (spF K (fun x : Int => [(iD x)]) (fun number : Int => m_is_letter_number number = true) fun x d => d = nD) := by
  have hN : (["number"] : List Str).Nodup := by decide +kernel
  refine Fn.mkF (Nm := ["number"]) T.d_check_letters ⟨rfl, rfl, rfl, hN, rfl, by decide +kernel, by decide +kernel⟩ (fun _ _ _ _ _ _ us hl => match us, hl with | [_], _ => rfl) (fun a => rfl) fun number hp O0 H0 f cdv A0 outer s H E hr => ?_
  have hp : m_is_letter_number number = true := hp
  show WB _ _ [.dat (iD number)] _ (Er nD)
  refine wb_ifG (F := fun m => Er (eN m)) (b1 := ()) (b2 := ()) (et_not (et_val (ev_call (ok_is_letter_number T) hr (ea_cons (ev_var 0) ea_nil) ⟨number, rfl, (by /-0-/ trivial), rfl⟩))) (fun h1 => ?_) (fun h1 => ?_)
  ·
    exact wb_never (by /-1-/ trivial)
  ·
    exact wb_endE
def m_check_size (size : Int) (low : Int) (high : Int) : Unit := (if (!(m_is_between size low high)) then default else ())
theorem ok_check_size (T : Tx K mg) : Fn P w K mg base 3 "check_size" ["size", "low", "high"] (spF K (fun x : Int × Int × Int => [(iD x.1), (iD x.2.1), (iD x.2.2)]) (fun x : Int × Int × Int => match x with | (size, low, high) => m_is_between size low high = true) fun x d => d = nD) := by
  have hN : (["size", "low", "high"] : List Str).Nodup := by decide +kernel
  refine Fn.mkF (Nm := ["size", "low", "high"]) T.d_check_size ⟨rfl, rfl, rfl, hN, rfl, by decide +kernel, by decide +kernel⟩ (fun _ _ _ _ _ _ us hl => match us, hl with | [_, _, _], _ => rfl) (fun a => rfl) fun a hp O0 H0 f cdv A0 outer s H E hr => ?_
  obtain ⟨size, low, high⟩ := a
  have hp : m_is_between size low high = true := hp
  show WB _ _ [.dat (iD size), .dat (iD low), .dat (iD high)] _ (Er nD)
  refine wb_ifG (F := fun m => Er (eN m)) (b1 := ()) (b2 := ()) (et_not (et_val (ev_call (ok_is_between T) hr (ea_cons (ev_var 0) (ea_cons (ev_var 1) (ea_cons (ev_var 2) ea_nil))) ⟨(size, low, high), rfl, (by /-0-/ trivial), rfl⟩))) (fun h1 => ?_) (fun h1 => ?_)
  ·
    exact wb_never (by /-1-/ trivial)
  ·
    exact wb_endE
def m_check_number_size (number : Int) (size : Int) (low : Int) (high : Int) : Unit := ()
theorem ok_check_number_size (T : Tx K mg) : Fn P w K mg base 5 "check_number_size" ["number", "size", "low", "high"] (spF K (fun x : Int × Int × Int × Int => [(iD x.1), (iD x.2.1), (iD x.2.2.1), (iD x.2.2.2)]) (fun x : Int × Int × Int × Int => match x with | (number, size, low, high) => m_is_letter_number number = true ∧ m_is_between size low high = true) fun x d => d = nD) := by
  have hN : (["number", "size", "low", "high"] : List Str).Nodup := by decide +kernel
  refine Fn.mkF (Nm := ["number", "size", "low", "high"]) T.d_check_number_size ⟨rfl, rfl, rfl, hN, rfl, by decide +kernel, by decide +kernel⟩ (fun _ _ _ _ _ _ us hl => match us, hl with | [_, _, _, _], _ => rfl) (fun a => rfl) fun a hp O0 H0 f cdv A0 outer s H E hr => ?_
  obtain ⟨number, size, low, high⟩ := a
  have hp : m_is_letter_number number = true ∧ m_is_between size low high = true := hp
  obtain ⟨p1, p2⟩ := (show m_is_letter_number number = true ∧ m_is_between size low high = true from hp)
  show WB _ _ [.dat (iD number), .dat (iD size), .dat (iD low), .dat (iD high)] _ (Er nD)
  refine wb_expr (ev_call (ok_check_letters T) hr (ea_cons (ev_var 0) ea_nil) ⟨number, rfl, (by /-0-/ trivial), rfl⟩) ?_
  refine wb_expr (ev_call (ok_check_size T) hr (ea_cons (ev_var 1) (ea_cons (ev_var 2) (ea_cons (ev_var 3) ea_nil))) ⟨(size, low, high), rfl, (by /-1-/ dsimp only; trivial), rfl⟩) ?_
  exact wb_endE
def m_borders (word : W) : (List W) := (m_borders_by word)
theorem ok_borders (T : Tx K mg) : Fn P w K mg base 5 "borders" ["word"] (spF K (fun x : W => [(wD x)]) (fun word : W => word.length ≤ 4096 ∧ m_is_worded word = true) fun x d => d = ((eT eW) (m_borders x))) := by
  have hN : (["word"] : List Str).Nodup := by decide +kernel
  refine Fn.mkF (Nm := ["word"]) T.d_borders ⟨rfl, rfl, rfl, hN, rfl, by decide +kernel, by decide +kernel⟩ (fun _ _ _ _ _ _ us hl => match us, hl with | [_], _ => rfl) (fun a => rfl) fun word hp O0 H0 f cdv A0 outer s H E hr => ?_
  have hp : word.length ≤ 4096 ∧ m_is_worded word = true := hp
  obtain ⟨p1, p2⟩ := (show word.length ≤ 4096 ∧ m_is_worded word = true from hp)
  show WB _ _ [.dat (wD word)] _ (Er ((eT eW) (m_borders_by word)))
  refine wb_expr (ev_call (ok_check_word T) hr (ea_cons (ev_var 0) ea_nil) ⟨word, rfl, (by /-0-/ trivial), rfl⟩) ?_
  exact wb_retE (ev_tupL (en := eW) T.b_tuple (ev_call (ok_borders_by T) hr (ea_cons (ev_var 0) ea_nil) ⟨word, rfl, (by /-1-/ trivial), rfl⟩))
def m_least_period (word : W) : Int := (m_least_period_by word)
theorem ok_least_period (T : Tx K mg) : Fn P w K mg base 6 "least_period" ["word"] (spF K (fun x : W => [(wD x)]) (fun word : W => word.length ≤ 4096 ∧ word ≠ [] ∧ m_is_worded word = true) fun x d => d = (iD (m_least_period x))) := by
  have hN : (["word"] : List Str).Nodup := by decide +kernel
  refine Fn.mkF (Nm := ["word"]) T.d_least_period ⟨rfl, rfl, rfl, hN, rfl, by decide +kernel, by decide +kernel⟩ (fun _ _ _ _ _ _ us hl => match us, hl with | [_], _ => rfl) (fun a => rfl) fun word hp O0 H0 f cdv A0 outer s H E hr => ?_
  have hp : word.length ≤ 4096 ∧ word ≠ [] ∧ m_is_worded word = true := hp
  obtain ⟨p1, p2, p3⟩ := (show word.length ≤ 4096 ∧ word ≠ [] ∧ m_is_worded word = true from hp)
  show WB _ _ [.dat (wD word)] _ (Er (iD (m_least_period_by word)))
  refine wb_expr (ev_call (ok_check_filled_word T) hr (ea_cons (ev_var 0) ea_nil) ⟨word, rfl, (by /-0-/ trivial), rfl⟩) ?_
  exact wb_retE (ev_call (ok_least_period_by T) hr (ea_cons (ev_var 0) ea_nil) ⟨word, rfl, (by /-1-/ trivial), rfl⟩)
def m_mean_wait (number : Int) (word : W) : Int := (if ((decide (word = ([] : W))) || (!(m_is_word_of number word))) then default else (m_mean_wait_by number word))
theorem ok_mean_wait (T : Tx K mg) : Fn P w K mg base 5 "mean_wait" ["number", "word"] (spF K (fun x : Int × W => [(iD x.1), (wD x.2)]) (fun x : Int × W => match x with | (number, word) => word.length ≤ 900 ∧ m_is_letter_number number = true ∧ m_is_worded word = true ∧ m_is_word_of number word = true ∧ word ≠ [] ∧ 1 ≤ number ∧ number ≤ 3) fun x d => d = (iD (m_mean_wait x.1 x.2))) := by
  have hN : (["number", "word"] : List Str).Nodup := by decide +kernel
  refine Fn.mkF (Nm := ["number", "word"]) T.d_mean_wait ⟨rfl, rfl, rfl, hN, rfl, by decide +kernel, by decide +kernel⟩ (fun _ _ _ _ _ _ us hl => match us, hl with | [_, _], _ => rfl) (fun a => rfl) fun a hp O0 H0 f cdv A0 outer s H E hr => ?_
  obtain ⟨number, word⟩ := a
  have hp : word.length ≤ 900 ∧ m_is_letter_number number = true ∧ m_is_worded word = true ∧ m_is_word_of number word = true ∧ word ≠ [] ∧ 1 ≤ number ∧ number ≤ 3 := hp
  obtain ⟨p1, p2, p3, p4, p5, p6, p7⟩ := (show word.length ≤ 900 ∧ m_is_letter_number number = true ∧ m_is_worded word = true ∧ m_is_word_of number word = true ∧ word ≠ [] ∧ 1 ≤ number ∧ number ≤ 3 from hp)
  show WB _ _ [.dat (iD number), .dat (wD word)] _ (Er (iD (if ((decide (word = ([] : W))) || (!(m_is_word_of number word))) then default else (m_mean_wait_by number word))))
  refine wb_expr (ev_call (ok_check_letters T) hr (ea_cons (ev_var 0) ea_nil) ⟨number, rfl, (by /-0-/ trivial), rfl⟩) ?_
  refine wb_expr (ev_call (ok_check_word T) hr (ea_cons (ev_var 1) ea_nil) ⟨word, rfl, (by /-1-/ trivial), rfl⟩) ?_
  refine wb_ifG (F := fun m => Er (eI m)) (et_w (ew_or (et_c (ev_var 1) (ev_str ([] : W)) cp_eqW) (fun h1 => (ew_or1 (et_not (et_val (ev_call (ok_is_word_of T) hr (ea_cons (ev_var 0) (ea_cons (ev_var 1) ea_nil)) ⟨(number, word), rfl, (by /-2-/ dsimp only; trivial), rfl⟩))))))) (fun h2 => ?_) (fun h2 => ?_)
  ·
    exact wb_never (by /-3-/ trivial)
  ·
    exact wb_retE (ev_call (ok_mean_wait_by T) hr (ea_cons (ev_var 0) (ea_cons (ev_var 1) ea_nil)) ⟨(number, word), rfl, (by /-4-/ dsimp only; trivial), rfl⟩)
def m_turned_by (word : W) (size : Int) : W := ((cutL word (some (if (!decide (word = ([] : W))) then (size % (word.length : Int)) else (0 : Int))) none) ++ (cutL word none (some (if (!decide (word = ([] : W))) then (size % (word.length : Int)) else (0 : Int)))))
theorem ok_turned_by (T : Tx K mg) : Fn P w K mg base 1 "turned_by" ["word", "size"] (spF K (fun x : W × Int => [(wD x.1), (iD x.2)]) (fun x : W × Int => match x with | (word, size) => word.length ≤ 4096) fun x d => d = (wD (m_turned_by x.1 x.2))) := by
  have hN : (["word", "size", "behind"] : List Str).Nodup := by decide +kernel
  refine Fn.mkF (Nm := ["word", "size", "behind"]) T.d_turned_by ⟨rfl, rfl, rfl, hN, rfl, by decide +kernel, by decide +kernel⟩ (fun _ _ _ _ _ _ us hl => match us, hl with | [_, _], _ => rfl) (fun a => rfl) fun a hp O0 H0 f cdv A0 outer s H E hr => ?_
  obtain ⟨word, size⟩ := a
  have hp : word.length ≤ 4096 := hp
  show WB _ _ [.dat (wD word), .dat (iD size), .un] _ (Er (wD ((cutL word (some (if (!decide (word = ([] : W))) then (size % (word.length : Int)) else (0 : Int))) none) ++ (cutL word none (some (if (!decide (word = ([] : W))) then (size % (word.length : Int)) else (0 : Int)))))))
  refine wb_let 2 (ev_ifT (en := eI) (et_c (ev_var 0) (ev_str ([] : W)) cp_neW) (fun h1 => (ev_mod (ev_var 1) (ev_lenW T.b_len (ev_var 0) (by /-0-/ trivial)) (by /-1-/ exact pos_ne h1))) (fun h1 => ev_int)) ?_ hN
  exact wb_retE (ev_addW (ev_slW (ev_var 0) (eo_some (ev_var 2)) eo_none (by /-2-/ trivial)) (ev_slW (ev_var 0) eo_none (eo_some (ev_var 2)) (by /-3-/ trivial)) (by /-4-/ exact cut2 hp))
def m_turns_of (word : W) : (List W) := (List.map (fun (size : Int) => (m_turned_by word size)) (rngI 0 (max (1 : Int) (word.length : Int))))
theorem ok_turns_of (T : Tx K mg) : Fn P w K mg base 2 "turns_of" ["word"] (spF K (fun x : W => [(wD x)]) (fun word : W => word.length ≤ 4096) fun x d => d = ((eL eW) (m_turns_of x))) := by
  have hN : (["word", "size"] : List Str).Nodup := by decide +kernel
  refine Fn.mkF (Nm := ["word", "size"]) T.d_turns_of ⟨rfl, rfl, rfl, hN, rfl, by decide +kernel, by decide +kernel⟩ (fun _ _ _ _ _ _ us hl => match us, hl with | [_], _ => rfl) (fun a => rfl) fun word hp O0 H0 f cdv A0 outer s H E hr => ?_
  have hp : word.length ≤ 4096 := hp
  show WB _ _ [.dat (wD word), .un] _ (Er ((eL eW) (List.map (fun (size : Int) => (m_turned_by word size)) (rngI 0 (max (1 : Int) (word.length : Int))))))
  exact wb_retE (EvN.ev (evn_lc1M [("size", 1)] (Lc1.mk (q := fun (size : Int) => true) (g := eI) (f := fun (size : Int) => (m_turned_by word size)) (ec := eW) (ei_rng1T T.b_range (ev_max2 T.b_max ev_int (ev_lenW T.b_len (ev_var 0) (by /-0-/ trivial))) (by /-1-/ trivial)) hN (by /-3-/ trivial) (fun size h1 _ _ _ _ _ => (eg_name 1 hN)) (fun size h1 _ _ _ _ _ => wq_nil) (fun size h1 h2 _ _ _ _ _ => (ev_call (ok_turned_by T) hr (ea_cons (ev_var 0) (ea_cons (ev_var 1) ea_nil)) ⟨(word, size), rfl, (by /-2-/ dsimp only; trivial), rfl⟩)))))
theorem turns_len (w : W) : (m_turns_of w).length = max 1 w.length := by
  unfold m_turns_of
  rw [List.length_map, rngI_length]
  omega
theorem turns_ne (w : W) : m_turns_of w ≠ [] := fun e => by
  have := turns_len w
  rw [e] at this
  simp at this
  omega
def m_unlike_turns (word : W) : (List W) := (sortW (List.map (fun q => q.1) (List.foldl (fun (m : List (W × Bool)) (turn : W) => putA m turn true) [] (m_turns_of word))))
theorem ok_unlike_turns (T : Tx K mg) : Fn P w K mg base 3 "unlike_turns" ["word"] (spF K (fun x : W => [(wD x)]) (fun word : W => word.length ≤ 12) fun x d => d = ((eL eW) (m_unlike_turns x))) := by
  have hN : (["word", "turn"] : List Str).Nodup := by decide +kernel
  refine Fn.mkF (Nm := ["word", "turn"]) T.d_unlike_turns ⟨rfl, rfl, rfl, hN, rfl, by decide +kernel, by decide +kernel⟩ (fun _ _ _ _ _ _ us hl => match us, hl with | [_], _ => rfl) (fun a => rfl) fun word hp O0 H0 f cdv A0 outer s H E hr => ?_
  have hp : word.length ≤ 12 := hp
  show WB _ _ [.dat (wD word), .un] _ (Er ((eL eW) (sortW (List.map (fun q => q.1) (List.foldl (fun (m : List (W × Bool)) (turn : W) => putA m turn true) [] (m_turns_of word))))))
  exact wb_retE (EvN.ev (evn_sortDW (en := eB) T.b_sorted (EvN.ev (evn_dcW (g := eW) (kf := fun (turn : W) => turn) (vf := fun (turn : W) => true) (en := eB) [("turn", 1)] (ei_listT (en := eW) (ev_call (ok_turns_of T) hr (ea_cons (ev_var 0) ea_nil) ⟨word, rfl, (by /-0-/ trivial), rfl⟩)) hN (by /-1-/ have := turns_len word; omega) (fun turn h1 _ _ _ _ _ => (eg_name 1 hN)) (fun turn h1 _ _ _ _ _ => (ev_var 1)) (fun turn h1 _ _ _ _ _ => ev_bl))) (by /-2-/ have h1 := turns_len word; have h2 := putA_fold (kf := fun t : W => t) (vf := fun _ : W => true) (m_turns_of word) []; rw [List.length_nil] at h2; exact Nat.lt_of_le_of_lt h2 (by omega))))
def m_ring_by (word : W) : W := (minW (m_turns_of word))
theorem ok_ring_by (T : Tx K mg) : Fn P w K mg base 3 "ring_by" ["word"] (spF K (fun x : W => [(wD x)]) (fun word : W => word.length ≤ 4096) fun x d => d = (wD (m_ring_by x))) := by
  have hN : (["word"] : List Str).Nodup := by decide +kernel
  refine Fn.mkF (Nm := ["word"]) T.d_ring_by ⟨rfl, rfl, rfl, hN, rfl, by decide +kernel, by decide +kernel⟩ (fun _ _ _ _ _ _ us hl => match us, hl with | [_], _ => rfl) (fun a => rfl) fun word hp O0 H0 f cdv A0 outer s H E hr => ?_
  have hp : word.length ≤ 4096 := hp
  show WB _ _ [.dat (wD word)] _ (Er (wD (minW (m_turns_of word))))
  exact wb_retE (ev_minWL T.b_min (ev_call (ok_turns_of T) hr (ea_cons (ev_var 0) ea_nil) ⟨word, rfl, (by /-0-/ trivial), rfl⟩) (by /-1-/ exact turns_ne word))
def m_divisors_of (number : Int) : (List Int) := (List.map (fun (each : Int) => each) (List.filter (fun (each : Int) => (decide ((number % each) = (0 : Int)))) (rngI (1 : Int) (number + (1 : Int)))))
theorem ok_divisors_of (T : Tx K mg) : Fn P w K mg base 1 "divisors_of" ["number"] (spF K (fun x : Int => [(iD x)]) (fun number : Int => 0 ≤ number ∧ number ≤ 4096) fun x d => d = ((eL eI) (m_divisors_of x))) := by
  have hN : (["number", "each"] : List Str).Nodup := by decide +kernel
  refine Fn.mkF (Nm := ["number", "each"]) T.d_divisors_of ⟨rfl, rfl, rfl, hN, rfl, by decide +kernel, by decide +kernel⟩ (fun _ _ _ _ _ _ us hl => match us, hl with | [_], _ => rfl) (fun a => rfl) fun number hp O0 H0 f cdv A0 outer s H E hr => ?_
  have hp : 0 ≤ number ∧ number ≤ 4096 := hp
  obtain ⟨p1, p2⟩ := (show 0 ≤ number ∧ number ≤ 4096 from hp)
  show WB _ _ [.dat (iD number), .un] _ (Er ((eL eI) (List.map (fun (each : Int) => each) (List.filter (fun (each : Int) => (decide ((number % each) = (0 : Int)))) (rngI (1 : Int) (number + (1 : Int)))))))
  exact wb_retE (EvN.ev (evn_lc1 [("each", 1)] (Lc1.mk (q := fun (each : Int) => (decide ((number % each) = (0 : Int)))) (g := eI) (f := fun (each : Int) => each) (ec := eI) (ei_rng2T T.b_range ev_int (ev_addI (ev_var 0) ev_int) (by /-0-/ trivial)) hN (by /-2-/ trivial) (fun each h1 _ _ _ _ _ => (eg_name 1 hN)) (fun each h1 _ _ _ _ _ => (wq_one (et_c (ev_mod (ev_var 0) (ev_var 1) (by /-1-/ trivial)) ev_int cp_eqI))) (fun each h1 h2 _ _ _ _ _ => (ev_var 1)))))
theorem mem_divs {n x : Int} : x ∈ m_divisors_of n ↔ (1 ≤ x ∧ x < n + 1) ∧ n % x = 0 := by
  unfold m_divisors_of
  rw [List.map_id'', List.mem_filter, mem_rngI, decide_eq_true_iff]
  intro a; rfl
theorem divs_len (n : Int) : (m_divisors_of n).length ≤ n.toNat := by
  unfold m_divisors_of
  rw [List.length_map]
  refine Nat.le_trans (List.length_filter_le _ _) ?_
  rw [rngI_length]; omega
theorem divs_sl {w : W} (h : w.length ≤ 4096) : (m_divisors_of w.length).length ≤ sizeLine := by
  have := divs_len w.length
  exact sl_le (by omega)
theorem turned_nat {w : W} {k : Nat} (hk : k ≤ w.length) : m_turned_by w k = w.drop k ++ w.take k := by
  unfold m_turned_by
  by_cases h : w = []
  · subst h; simp at hk; subst hk; rfl
  · have hl := List.length_pos_iff.mpr h
    rw [if_pos (by simp [h])]
    by_cases e : k = w.length
    · subst e
      rw [Int.emod_self]
      rw [show ((0 : Int)) = ((0 : Nat) : Int) from rfl, cutL_from, cutL_to]
      simp
    · rw [show ((k : Int) % (w.length : Int)) = ((k % w.length : Nat) : Int) from by norm_cast, Nat.mod_eq_of_lt (by omega), cutL_from, cutL_to]
theorem root_in {w : W} (h : w ≠ []) : InR (List.map (fun each : Int => each) (List.filter (fun each : Int => decide (m_turned_by w each = w)) (m_divisors_of w.length))) 0 := by
  refine inR_zero fun z => ?_
  have hl := List.length_pos_iff.mpr h
  have hm : (w.length : Int) ∈ List.map (fun each : Int => each) (List.filter (fun each : Int => decide (m_turned_by w each = w)) (m_divisors_of w.length)) := by
    rw [List.map_id'' (fun a => rfl), List.mem_filter, mem_divs, decide_eq_true_iff]
    refine ⟨⟨by omega, Int.emod_self⟩, ?_⟩
    rw [turned_nat (Nat.le_refl _)]
    simp
  rw [z] at hm
  exact absurd hm List.not_mem_nil
def m_root_by (word : W) : W := (cutL word none (some (ix (List.map (fun (each : Int) => each) (List.filter (fun (each : Int) => (decide ((m_turned_by word each) = word))) (m_divisors_of (word.length : Int)))) (0 : Int))))
theorem ok_root_by (T : Tx K mg) : Fn P w K mg base 2 "root_by" ["word"] (spF K (fun x : W => [(wD x)]) (fun word : W => word.length ≤ 4096 ∧ word ≠ []) fun x d => d = (wD (m_root_by x))) := by
  have hN : (["word", "size", "each"] : List Str).Nodup := by decide +kernel
  refine Fn.mkF (Nm := ["word", "size", "each"]) T.d_root_by ⟨rfl, rfl, rfl, hN, rfl, by decide +kernel, by decide +kernel⟩ (fun _ _ _ _ _ _ us hl => match us, hl with | [_], _ => rfl) (fun a => rfl) fun word hp O0 H0 f cdv A0 outer s H E hr => ?_
  have hp : word.length ≤ 4096 ∧ word ≠ [] := hp
  obtain ⟨p1, p2⟩ := (show word.length ≤ 4096 ∧ word ≠ [] from hp)
  show WB _ _ [.dat (wD word), .un, .un] _ (Er (wD (cutL word none (some (ix (List.map (fun (each : Int) => each) (List.filter (fun (each : Int) => (decide ((m_turned_by word each) = word))) (m_divisors_of (word.length : Int)))) (0 : Int))))))
  refine wb_let 1 (ev_ixLt (en := eI) (EvN.ev (evn_lc1 [("each", 2)] (Lc1.mk (q := fun (each : Int) => (decide ((m_turned_by word each) = word))) (g := eI) (f := fun (each : Int) => each) (ec := eI) (ei_listT (en := eI) (ev_call (ok_divisors_of T) hr (ea_cons (ev_lenW T.b_len (ev_var 0) (by /-0-/ trivial)) ea_nil) ⟨(word.length : Int), rfl, (by /-1-/ trivial), rfl⟩)) hN (by /-3-/ exact divs_sl p1) (fun each h1 _ _ _ _ _ => (eg_name 2 hN)) (fun each h1 _ _ _ _ _ => (wq_one (et_c (ev_call (ok_turned_by T) hr (ea_cons (ev_var 0) (ea_cons (ev_var 2) ea_nil)) ⟨(word, each), rfl, (by /-2-/ dsimp only; trivial), rfl⟩) (ev_var 0) cp_eqW))) (fun each h1 h2 _ _ _ _ _ => (ev_var 2))))) ev_int (by /-4-/ exact root_in p2)) ?_ hN
  exact wb_retE (ev_slW (ev_var 0) eo_none (eo_some (ev_var 1)) (by /-5-/ trivial))
def m_is_whole_by (word : W) : Bool := ((!decide (word = ([] : W))) && (decide ((m_root_by word) = word)))
theorem ok_is_whole_by (T : Tx K mg) : Fn P w K mg base 3 "is_whole_by" ["word"] (spF K (fun x : W => [(wD x)]) (fun word : W => word.length ≤ 4096) fun x d => d = (bD (m_is_whole_by x))) := by
  have hN : (["word"] : List Str).Nodup := by decide +kernel
  refine Fn.mkF (Nm := ["word"]) T.d_is_whole_by ⟨rfl, rfl, rfl, hN, rfl, by decide +kernel, by decide +kernel⟩ (fun _ _ _ _ _ _ us hl => match us, hl with | [_], _ => rfl) (fun a => rfl) fun word hp O0 H0 f cdv A0 outer s H E hr => ?_
  have hp : word.length ≤ 4096 := hp
  show WB _ _ [.dat (wD word)] _ (Er (bD ((!decide (word = ([] : W))) && (decide ((m_root_by word) = word)))))
  exact wb_retE (ev_and (ev_c (ev_var 0) (ev_str ([] : W)) cp_neW) (fun h1 => (ev_one (ev_c (ev_call (ok_root_by T) hr (ea_cons (ev_var 0) ea_nil) ⟨word, rfl, (by /-0-/ trivial), rfl⟩) (ev_var 0) cp_eqW))))
def m_ends_of (word : W) : (List W) := (List.map (fun (place : Int) => (cutL word (some place) none)) (rngI 0 (word.length : Int)))
theorem ok_ends_of (T : Tx K mg) : Fn P w K mg base 1 "ends_of" ["word"] (spF K (fun x : W => [(wD x)]) (fun word : W => word.length ≤ 4096) fun x d => d = ((eL eW) (m_ends_of x))) := by
  have hN : (["word", "place"] : List Str).Nodup := by decide +kernel
  refine Fn.mkF (Nm := ["word", "place"]) T.d_ends_of ⟨rfl, rfl, rfl, hN, rfl, by decide +kernel, by decide +kernel⟩ (fun _ _ _ _ _ _ us hl => match us, hl with | [_], _ => rfl) (fun a => rfl) fun word hp O0 H0 f cdv A0 outer s H E hr => ?_
  have hp : word.length ≤ 4096 := hp
  show WB _ _ [.dat (wD word), .un] _ (Er ((eL eW) (List.map (fun (place : Int) => (cutL word (some place) none)) (rngI 0 (word.length : Int)))))
  exact wb_retE (EvN.ev (evn_lc1M [("place", 1)] (Lc1.mk (q := fun (place : Int) => true) (g := eI) (f := fun (place : Int) => (cutL word (some place) none)) (ec := eW) (ei_rng1T T.b_range (ev_lenW T.b_len (ev_var 0) (by /-0-/ trivial)) (by /-1-/ trivial)) hN (by /-3-/ trivial) (fun place h1 _ _ _ _ _ => (eg_name 1 hN)) (fun place h1 _ _ _ _ _ => wq_nil) (fun place h1 h2 _ _ _ _ _ => (ev_slW (ev_var 0) (eo_some (ev_var 1)) eo_none (by /-2-/ trivial))))))
theorem ends_len (w : W) : (m_ends_of w).length = w.length := by
  unfold m_ends_of
  rw [List.length_map, rngI_length]
  omega
def m_is_least_by (word : W) : Bool := ((!decide (word = ([] : W))) && (List.all (List.map (fun (end' : W) => (decide (word < end'))) (cutL (m_ends_of word) (some (1 : Int)) none)) id))
theorem ok_is_least_by (T : Tx K mg) : Fn P w K mg base 2 "is_least_by" ["word"] (spF K (fun x : W => [(wD x)]) (fun word : W => word.length ≤ 4096) fun x d => d = (bD (m_is_least_by x))) := by
  have hN : (["word", "end"] : List Str).Nodup := by decide +kernel
  refine Fn.mkF (Nm := ["word", "end"]) T.d_is_least_by ⟨rfl, rfl, rfl, hN, rfl, by decide +kernel, by decide +kernel⟩ (fun _ _ _ _ _ _ us hl => match us, hl with | [_], _ => rfl) (fun a => rfl) fun word hp O0 H0 f cdv A0 outer s H E hr => ?_
  have hp : word.length ≤ 4096 := hp
  show WB _ _ [.dat (wD word), .un] _ (Er (bD ((!decide (word = ([] : W))) && (List.all (List.map (fun (end' : W) => (decide (word < end'))) (cutL (m_ends_of word) (some (1 : Int)) none)) id))))
  exact wb_retE (ev_and (ev_c (ev_var 0) (ev_str ([] : W)) cp_neW) (fun h3 => (ev_one (ev_allT T.b_all (EvN.ev (evn_lc1M [("end", 1)] (Lc1.mk (q := fun (end' : W) => true) (g := eW) (f := fun (end' : W) => (decide (word < end'))) (ec := eB) (ei_listT (en := eW) (ev_slLt (en := eW) (ev_call (ok_ends_of T) hr (ea_cons (ev_var 0) ea_nil) ⟨word, rfl, (by /-0-/ trivial), rfl⟩) (eo_some ev_int) eo_none)) hN (by /-1-/ have h1 := cutL_len (m_ends_of word) (some 1) none; rw [ends_len] at h1; exact sl_le (by omega)) (fun end' h1 _ _ _ _ _ => (eg_name 1 hN)) (fun end' h1 _ _ _ _ _ => wq_nil) (fun end' h1 h2 _ _ _ _ _ => (ev_c (ev_var 0) (ev_var 1) cp_ltW)))))))))
def m_least_of_length (number : Int) (size : Int) : (List W) := (List.map (fun (word : W) => word) (List.filter (fun (word : W) => (m_is_least_by word)) (m_all_words number size)))
theorem ok_least_of_length (T : Tx K mg) : Fn P w K mg base 3 "least_of_length" ["number", "size"] (spF K (fun x : Int × Int => [(iD x.1), (iD x.2)]) (fun x : Int × Int => match x with | (number, size) => 0 ≤ size ∧ size ≤ 7) fun x d => d = ((eL eW) (m_least_of_length x.1 x.2))) := by
  have hN : (["number", "size", "word"] : List Str).Nodup := by decide +kernel
  refine Fn.mkF (Nm := ["number", "size", "word"]) T.d_least_of_length ⟨rfl, rfl, rfl, hN, rfl, by decide +kernel, by decide +kernel⟩ (fun _ _ _ _ _ _ us hl => match us, hl with | [_, _], _ => rfl) (fun a => rfl) fun a hp O0 H0 f cdv A0 outer s H E hr => ?_
  obtain ⟨number, size⟩ := a
  have hp : 0 ≤ size ∧ size ≤ 7 := hp
  obtain ⟨p1, p2⟩ := (show 0 ≤ size ∧ size ≤ 7 from hp)
  show WB _ _ [.dat (iD number), .dat (iD size), .un] _ (Er ((eL eW) (List.map (fun (word : W) => word) (List.filter (fun (word : W) => (m_is_least_by word)) (m_all_words number size)))))
  exact wb_retE (EvN.ev (evn_lc1 [("word", 2)] (Lc1.mk (q := fun (word : W) => (m_is_least_by word)) (g := eW) (f := fun (word : W) => word) (ec := eW) (ei_listT (en := eW) (ev_call (ok_all_words T) hr (ea_cons (ev_var 0) (ea_cons (ev_var 1) ea_nil)) ⟨(number, size), rfl, (by /-0-/ dsimp only; trivial), rfl⟩)) hN (by /-2-/ have := all_words_len (n := number) (size := size) (by omega); exact sl_le (by omega)) (fun word h1 _ _ _ _ _ => (eg_name 2 hN)) (fun word h1 _ _ _ _ _ => (wq_one (et_val (ev_call (ok_is_least_by T) hr (ea_cons (ev_var 2) ea_nil) ⟨word, rfl, (by /-1-/ have := (all_words_mem.mp h1).1; omega), rfl⟩)))) (fun word h1 h2 _ _ _ _ _ => (ev_var 2)))))
def m_is_least (word : W) : Bool := (m_is_least_by word)
theorem ok_is_least (T : Tx K mg) : Fn P w K mg base 5 "is_least" ["word"] (spF K (fun x : W => [(wD x)]) (fun word : W => word.length ≤ 4096 ∧ m_is_worded word = true) fun x d => d = (bD (m_is_least x))) := by
  have hN : (["word"] : List Str).Nodup := by decide +kernel
  refine Fn.mkF (Nm := ["word"]) T.d_is_least ⟨rfl, rfl, rfl, hN, rfl, by decide +kernel, by decide +kernel⟩ (fun _ _ _ _ _ _ us hl => match us, hl with | [_], _ => rfl) (fun a => rfl) fun word hp O0 H0 f cdv A0 outer s H E hr => ?_
  have hp : word.length ≤ 4096 ∧ m_is_worded word = true := hp
  obtain ⟨p1, p2⟩ := (show word.length ≤ 4096 ∧ m_is_worded word = true from hp)
  show WB _ _ [.dat (wD word)] _ (Er (bD (m_is_least_by word)))
  refine wb_expr (ev_call (ok_check_word T) hr (ea_cons (ev_var 0) ea_nil) ⟨word, rfl, (by /-0-/ trivial), rfl⟩) ?_
  exact wb_retE (ev_call (ok_is_least_by T) hr (ea_cons (ev_var 0) ea_nil) ⟨word, rfl, (by /-1-/ trivial), rfl⟩)
def m_least_words (number : Int) (size : Int) : (List W) := (m_least_of_length number size)
theorem ok_least_words (T : Tx K mg) : Fn P w K mg base 6 "least_words" ["number", "size"] (spF K (fun x : Int × Int => [(iD x.1), (iD x.2)]) (fun x : Int × Int => match x with | (number, size) => m_is_letter_number number = true ∧ m_is_between size 1 7 = true ∧ 1 ≤ size ∧ size ≤ 7) fun x d => d = ((eT eW) (m_least_words x.1 x.2))) := by
  have hN : (["number", "size"] : List Str).Nodup := by decide +kernel
  refine Fn.mkF (Nm := ["number", "size"]) T.d_least_words ⟨rfl, rfl, rfl, hN, rfl, by decide +kernel, by decide +kernel⟩ (fun _ _ _ _ _ _ us hl => match us, hl with | [_, _], _ => rfl) (fun a => rfl) fun a hp O0 H0 f cdv A0 outer s H E hr => ?_
  obtain ⟨number, size⟩ := a
  have hp : m_is_letter_number number = true ∧ m_is_between size 1 7 = true ∧ 1 ≤ size ∧ size ≤ 7 := hp
  obtain ⟨p1, p2, p3, p4⟩ := (show m_is_letter_number number = true ∧ m_is_between size 1 7 = true ∧ 1 ≤ size ∧ size ≤ 7 from hp)
  show WB _ _ [.dat (iD number), .dat (iD size)] _ (Er ((eT eW) (m_least_of_length number size)))
  refine wb_expr (ev_call (ok_check_number_size T) hr (ea_cons (ev_var 0) (ea_cons (ev_var 1) (ea_cons ev_int (ea_cons (ev_gI (i := 7) T.c_LONGEST_TOLD) ea_nil)))) ⟨(number, size, (1 : Int), (7 : Int)), rfl, (by /-0-/ dsimp only; trivial), rfl⟩) ?_
  exact wb_retE (ev_tupL (en := eW) T.b_tuple (ev_call (ok_least_of_length T) hr (ea_cons (ev_var 0) (ea_cons (ev_var 1) ea_nil)) ⟨(number, size), rfl, (by /-1-/ dsimp only; trivial), rfl⟩))
def m_all_turns (word : W) : (List W) := (m_unlike_turns word)
theorem ok_all_turns (T : Tx K mg) : Fn P w K mg base 5 "all_turns" ["word"] (spF K (fun x : W => [(wD x)]) (fun word : W => word.length ≤ 12 ∧ m_is_worded word = true) fun x d => d = ((eT eW) (m_all_turns x))) := by
  have hN : (["word"] : List Str).Nodup := by decide +kernel
  refine Fn.mkF (Nm := ["word"]) T.d_all_turns ⟨rfl, rfl, rfl, hN, rfl, by decide +kernel, by decide +kernel⟩ (fun _ _ _ _ _ _ us hl => match us, hl with | [_], _ => rfl) (fun a => rfl) fun word hp O0 H0 f cdv A0 outer s H E hr => ?_
  have hp : word.length ≤ 12 ∧ m_is_worded word = true := hp
  obtain ⟨p1, p2⟩ := (show word.length ≤ 12 ∧ m_is_worded word = true from hp)
  show WB _ _ [.dat (wD word)] _ (Er ((eT eW) (m_unlike_turns word)))
  refine wb_expr (ev_call (ok_check_word T) hr (ea_cons (ev_var 0) ea_nil) ⟨word, rfl, (by /-0-/ trivial), rfl⟩) ?_
  exact wb_retE (ev_tupL (en := eW) T.b_tuple (ev_call (ok_unlike_turns T) hr (ea_cons (ev_var 0) ea_nil) ⟨word, rfl, (by /-1-/ trivial), rfl⟩))
def m_ring (word : W) : W := (m_ring_by word)
theorem ok_ring (T : Tx K mg) : Fn P w K mg base 5 "ring" ["word"] (spF K (fun x : W => [(wD x)]) (fun word : W => word.length ≤ 4096 ∧ m_is_worded word = true) fun x d => d = (wD (m_ring x))) := by
  have hN : (["word"] : List Str).Nodup := by decide +kernel
  refine Fn.mkF (Nm := ["word"]) T.d_ring ⟨rfl, rfl, rfl, hN, rfl, by decide +kernel, by decide +kernel⟩ (fun _ _ _ _ _ _ us hl => match us, hl with | [_], _ => rfl) (fun a => rfl) fun word hp O0 H0 f cdv A0 outer s H E hr => ?_
  have hp : word.length ≤ 4096 ∧ m_is_worded word = true := hp
  obtain ⟨p1, p2⟩ := (show word.length ≤ 4096 ∧ m_is_worded word = true from hp)
  show WB _ _ [.dat (wD word)] _ (Er (wD (m_ring_by word)))
  refine wb_expr (ev_call (ok_check_word T) hr (ea_cons (ev_var 0) ea_nil) ⟨word, rfl, (by /-0-/ trivial), rfl⟩) ?_
  exact wb_retE (ev_call (ok_ring_by T) hr (ea_cons (ev_var 0) ea_nil) ⟨word, rfl, (by /-1-/ trivial), rfl⟩)
def m_is_whole_turns (word : W) : Bool := (m_is_whole_by word)
theorem ok_is_whole_turns (T : Tx K mg) : Fn P w K mg base 5 "is_whole_turns" ["word"] (spF K (fun x : W => [(wD x)]) (fun word : W => word.length ≤ 4096 ∧ m_is_worded word = true) fun x d => d = (bD (m_is_whole_turns x))) := by
  have hN : (["word"] : List Str).Nodup := by decide +kernel
  refine Fn.mkF (Nm := ["word"]) T.d_is_whole_turns ⟨rfl, rfl, rfl, hN, rfl, by decide +kernel, by decide +kernel⟩ (fun _ _ _ _ _ _ us hl => match us, hl with | [_], _ => rfl) (fun a => rfl) fun word hp O0 H0 f cdv A0 outer s H E hr => ?_
  have hp : word.length ≤ 4096 ∧ m_is_worded word = true := hp
  obtain ⟨p1, p2⟩ := (show word.length ≤ 4096 ∧ m_is_worded word = true from hp)
  show WB _ _ [.dat (wD word)] _ (Er (bD (m_is_whole_by word)))
  refine wb_expr (ev_call (ok_check_word T) hr (ea_cons (ev_var 0) ea_nil) ⟨word, rfl, (by /-0-/ trivial), rfl⟩) ?_
  exact wb_retE (ev_call (ok_is_whole_by T) hr (ea_cons (ev_var 0) ea_nil) ⟨word, rfl, (by /-1-/ trivial), rfl⟩)
def m__law_well (script : (List Int)) (turn : Int) : (List Int) := [(if ((decide ((if (decide (turn < (script.length : Int))) then (ix script turn) else ((((7919 : Int) * turn) + ((List.sum (cutL script none (some (3 : Int)))) % (1000003 : Int))) + (29 : Int))) < (0 : Int))) || (decide (((10 : Int) ^ ((17 : Int)).toNat) ≤ (if (decide (turn < (script.length : Int))) then (ix script turn) else ((((7919 : Int) * turn) + ((List.sum (cutL script none (some (3 : Int)))) % (1000003 : Int))) + (29 : Int)))))) then (absI (if (decide (turn < (script.length : Int))) then (ix script turn) else ((((7919 : Int) * turn) + ((List.sum (cutL script none (some (3 : Int)))) % (1000003 : Int))) + (29 : Int)))) else (0 : Int)), (List.foldl (fun (s0 : Int) (cell : Int) => ((((s0 * (48271 : Int)) + (cell % (2147483399 : Int))) + (53 : Int)) % (2147483563 : Int))) ((40127 : Int) + ((977 : Int) * turn)) ((cutL script none (some (6 : Int))) ++ [(if (decide (turn < (script.length : Int))) then (ix script turn) else ((((7919 : Int) * turn) + ((List.sum (cutL script none (some (3 : Int)))) % (1000003 : Int))) + (29 : Int)))])), (0 : Int)]
theorem ok__law_well (T : Tx K mg) : Fn P w K mg base 1 "_law_well" ["script", "turn"] (spN K (fun x : (List Int) × Int => [((eL eI) x.1), (iD x.2)]) (fun x : (List Int) × Int => match x with | (script, turn) => script.length ≤ 63 ∧ 0 ≤ turn) fun x d => d = ((eL eI) (m__law_well x.1 x.2))) := by
  have hN : (["script", "turn", "own", "stir", "cell"] : List Str).Nodup := by decide +kernel
  refine Fn.mkN (Nm := ["script", "turn", "own", "stir", "cell"]) T.d__law_well ⟨rfl, rfl, rfl, hN, rfl, by decide +kernel, by decide +kernel⟩ (fun _ _ _ _ _ _ us hl => match us, hl with | [_, _], _ => rfl) (fun a => rfl) fun a hp O0 H0 f cdv A0 outer s H E hr => ?_
  obtain ⟨script, turn⟩ := a
  have hp : script.length ≤ 63 ∧ 0 ≤ turn := hp
  obtain ⟨p1, p2⟩ := (show script.length ≤ 63 ∧ 0 ≤ turn from hp)
  show WB _ _ [.dat ((eL eI) script), .dat (iD turn), .un, .un, .un] _ (Ern ((eL eI) [(if ((decide ((if (decide (turn < (script.length : Int))) then (ix script turn) else ((((7919 : Int) * turn) + ((List.sum (cutL script none (some (3 : Int)))) % (1000003 : Int))) + (29 : Int))) < (0 : Int))) || (decide (((10 : Int) ^ ((17 : Int)).toNat) ≤ (if (decide (turn < (script.length : Int))) then (ix script turn) else ((((7919 : Int) * turn) + ((List.sum (cutL script none (some (3 : Int)))) % (1000003 : Int))) + (29 : Int)))))) then (absI (if (decide (turn < (script.length : Int))) then (ix script turn) else ((((7919 : Int) * turn) + ((List.sum (cutL script none (some (3 : Int)))) % (1000003 : Int))) + (29 : Int)))) else (0 : Int)), (List.foldl (fun (s0 : Int) (cell : Int) => ((((s0 * (48271 : Int)) + (cell % (2147483399 : Int))) + (53 : Int)) % (2147483563 : Int))) ((40127 : Int) + ((977 : Int) * turn)) ((cutL script none (some (6 : Int))) ++ [(if (decide (turn < (script.length : Int))) then (ix script turn) else ((((7919 : Int) * turn) + ((List.sum (cutL script none (some (3 : Int)))) % (1000003 : Int))) + (29 : Int)))])), (0 : Int)]))
  refine wb_let 2 (ev_ifT (en := eI) (et_c (ev_var 1) (ev_lenLt (en := eI) T.b_len (ev_var 0)) cp_lt) (fun h1 => (ev_int1 T.b_int (ev_ixLt (en := eI) (ev_var 0) (ev_var 1) (by /-0-/ trivial)))) (fun h1 => (ev_addI (ev_addI (ev_mulI ev_int (ev_var 1) (by /-1-/ trivial)) (ev_mod (ev_int1 T.b_int (ev_sumT T.b_sum (ev_slLt (en := eI) (ev_var 0) eo_none (eo_some ev_int)))) ev_int (by /-2-/ trivial))) ev_int))) ?_ hN
  refine wb_let 3 (ev_addI ev_int (ev_mulI ev_int (ev_var 1) (by /-3-/ trivial))) ?_ hN
  refine wb_for (g := eI) (fun s0 : Int => [.dat ((eL eI) script), .dat (iD turn), .dat (iD (if (decide (turn < (script.length : Int))) then (ix script turn) else ((((7919 : Int) * turn) + ((List.sum (cutL script none (some (3 : Int)))) % (1000003 : Int))) + (29 : Int)))), .dat (iD s0), .un]) (fun (s0 : Int) (cell : Int) => ((((s0 * (48271 : Int)) + (cell % (2147483399 : Int))) + (53 : Int)) % (2147483563 : Int))) ((40127 : Int) + ((977 : Int) * turn)) (fun (i0 : Nat) (s0 : Int) => True) (ei_listT (en := eI) (ev_catt (en := eI) (ev_slLt (en := eI) (ev_var 0) eo_none (eo_some ev_int)) (EvN.ev (evn_lstT (en := eI) (l := [(if (decide (turn < (script.length : Int))) then (ix script turn) else ((((7919 : Int) * turn) + ((List.sum (cutL script none (some (3 : Int)))) % (1000003 : Int))) + (29 : Int)))]) (ea_cons (ev_var 2) ea_nil))) (by /-4-/ trivial))) ⟨.inl rfl, .inl rfl, .inl rfl, .inl rfl, .inr rfl, trivial⟩ (by trivial) (fun i0 cell s0 ha0 hJ0 hs0 => ⟨(by trivial), EvG.wg (eg_name 4 hN) ?_⟩) (fun hk0 => ?_)
  ·
    refine wb_let 3 (ev_mod (ev_int1 T.b_int (ev_addI (ev_addI (ev_mulI (ev_var 3) ev_int (by /-5-/ trivial)) (ev_mod (ev_int1 T.b_int (ev_var 4)) ev_int (by /-6-/ trivial))) ev_int)) ev_int (by /-7-/ trivial)) ?_ hN
    exact wb_goC (R := Unit) ⟨.inl rfl, .inl rfl, .inl rfl, .inl rfl, .inr rfl, trivial⟩
  exact wb_retWE (evn_lstT (en := eI) (l := [(if ((decide ((if (decide (turn < (script.length : Int))) then (ix script turn) else ((((7919 : Int) * turn) + ((List.sum (cutL script none (some (3 : Int)))) % (1000003 : Int))) + (29 : Int))) < (0 : Int))) || (decide (((10 : Int) ^ ((17 : Int)).toNat) ≤ (if (decide (turn < (script.length : Int))) then (ix script turn) else ((((7919 : Int) * turn) + ((List.sum (cutL script none (some (3 : Int)))) % (1000003 : Int))) + (29 : Int)))))) then (absI (if (decide (turn < (script.length : Int))) then (ix script turn) else ((((7919 : Int) * turn) + ((List.sum (cutL script none (some (3 : Int)))) % (1000003 : Int))) + (29 : Int)))) else (0 : Int)), (List.foldl (fun (s0 : Int) (cell : Int) => ((((s0 * (48271 : Int)) + (cell % (2147483399 : Int))) + (53 : Int)) % (2147483563 : Int))) ((40127 : Int) + ((977 : Int) * turn)) ((cutL script none (some (6 : Int))) ++ [(if (decide (turn < (script.length : Int))) then (ix script turn) else ((((7919 : Int) * turn) + ((List.sum (cutL script none (some (3 : Int)))) % (1000003 : Int))) + (29 : Int)))])), (0 : Int)]) (ea_cons (ev_ifT (en := eI) (et_w (ew_or (et_c (ev_var 2) ev_int cp_lt) (fun h2 => (ew_or1 (et_c (ev_var 2) (ev_pow ev_int ev_int (by /-8-/ trivial)) cp_ge))))) (fun h3 => (ev_abs T.b_abs (ev_var 2))) (fun h3 => ev_int)) (ea_cons (ev_var 3) (ea_cons ev_int ea_nil))))
def m__law_words (many : Int) (size : Int) : (List W) := (List.foldl (fun (s0 : (List W)) (turn : Int) => (List.foldl (fun (s1 : (List W)) (word : W) => (s1 ++ (List.map (fun (letter : Nat) => (word ++ [letter])) (cutL ([97, 98, 99] : W) none (some many))))) [] s0)) [([] : W)] (rngI 0 size))
theorem ok__law_words (T : Tx K mg) : Fn P w K mg base 1 "_law_words" ["many", "size"] (spF K (fun x : Int × Int => [(iD x.1), (iD x.2)]) (fun x : Int × Int => match x with | (many, size) => 0 ≤ size ∧ size ≤ 8) fun x d => d = ((eL eW) (m__law_words x.1 x.2))) := by
  have hN : (["many", "size", "found", "turn", "longer", "word", "letter"] : List Str).Nodup := by decide +kernel
  refine Fn.mkF (Nm := ["many", "size", "found", "turn", "longer", "word", "letter"]) T.d__law_words ⟨rfl, rfl, rfl, hN, rfl, by decide +kernel, by decide +kernel⟩ (fun _ _ _ _ _ _ us hl => match us, hl with | [_, _], _ => rfl) (fun a => rfl) fun a hp O0 H0 f cdv A0 outer s H E hr => ?_
  obtain ⟨many, size⟩ := a
  have hp : 0 ≤ size ∧ size ≤ 8 := hp
  obtain ⟨p1, p2⟩ := (show 0 ≤ size ∧ size ≤ 8 from hp)
  show WB _ _ [.dat (iD many), .dat (iD size), .un, .un, .un, .un, .un] _ (Er ((eL eW) (List.foldl (fun (s0 : (List W)) (turn : Int) => (List.foldl (fun (s1 : (List W)) (word : W) => (s1 ++ (List.map (fun (letter : Nat) => (word ++ [letter])) (cutL ([97, 98, 99] : W) none (some many))))) [] s0)) [([] : W)] (rngI 0 size))))
  refine wb_let 2 (EvN.ev (evn_lstT (en := eW) (l := [([] : W)]) (ea_cons (ev_str ([] : W)) ea_nil))) ?_ hN
  refine wb_for (g := eI) (fun s0 : (List W) => [.dat (iD many), .dat (iD size), .dat ((eL eW) s0), .un, .un, .un, .un]) (fun (s0 : (List W)) (turn : Int) => (List.foldl (fun (s1 : (List W)) (word : W) => (s1 ++ (List.map (fun (letter : Nat) => (word ++ [letter])) (cutL ([97, 98, 99] : W) none (some many))))) [] s0)) [([] : W)] (fun (i0 : Nat) (s0 : (List W)) => s0.length ≤ 3 ^ i0 ∧ ∀ w ∈ s0, w.length ≤ i0) (ei_rng1T T.b_range (ev_var 1) (by /-0-/ trivial)) ⟨.inl rfl, .inl rfl, .inl rfl, .inr rfl, .inr rfl, .inr rfl, .inr rfl, trivial⟩ (by exact ⟨by simp, by simp⟩) (fun i0 turn s0 ha0 hJ0 hs0 => ⟨(by exact aw_stepF (cut3 _) hJ0), EvG.wg (eg_name 3 hN) ?_⟩) (fun hk0 => ?_)
  ·
    refine wb_let 4 (EvN.ev (evn_lst ea_nil)) ?_ hN
    refine wb_for (g := eW) (fun s1 : (List W) => [.dat (iD many), .dat (iD size), .dat ((eL eW) s0), .dat (iD turn), .dat ((eL eW) s1), .un, .un]) (fun (s1 : (List W)) (word : W) => (s1 ++ (List.map (fun (letter : Nat) => (word ++ [letter])) (cutL ([97, 98, 99] : W) none (some many))))) [] (fun (i1 : Nat) (s1 : (List W)) => s1.length ≤ 3 * i1 ∧ ∀ w ∈ s1, w.length ≤ i0 + 1) (ei_listT (en := eW) (ev_var 2)) ⟨.inl rfl, .inl rfl, .inl rfl, .inl rfl, .inl rfl, .inr rfl, .inr rfl, trivial⟩ (by exact ⟨by simp, by simp⟩) (fun i1 word s1 ha1 hJ1 hs1 => ⟨(by exact aw_stepI (cut3 _) (hJ0.2 _ (List.mem_of_getElem? ha1)) hJ1), EvG.wg (eg_name 5 hN) ?_⟩) (fun hk1 => ?_)
    ·
      refine wb_let 4 (ev_catt (en := eW) (ev_var 4) (EvN.ev (evn_lc1M [("letter", 6)] (Lc1.mk (q := fun (letter : Nat) => true) (g := eC) (f := fun (letter : Nat) => (word ++ [letter])) (ec := eW) (ei_strT (ev_slW (ev_str ([97, 98, 99] : W)) eo_none (eo_some (ev_var 0)) (by /-1-/ decide))) hN (by /-3-/ exact Nat.le_trans (cut3 _) (by decide)) (fun letter h1 _ _ _ _ _ => (eg_name 6 hN)) (fun letter h1 _ _ _ _ _ => wq_nil) (fun letter h1 h2 _ _ _ _ _ => (ev_addW (ev_var 5) (ev_var 6) (by /-2-/ exact aw_len (rng_at ha0 (by omega)) (hJ0.2 _ (List.mem_of_getElem? ha1)))))))) (by /-4-/ exact aw_sz2 (cut3 _) (rng_at ha0 (by omega)) hJ0.1 ha1 hJ1.1)) ?_ hN
      exact wb_goC (R := Unit) ⟨.inl rfl, .inl rfl, .inl rfl, .inl rfl, .inl rfl, .inr rfl, .inr rfl, trivial⟩
    refine wb_let 2 (ev_var 4) ?_ hN
    exact wb_goC (R := Unit) ⟨.inl rfl, .inl rfl, .inl rfl, .inr rfl, .inr rfl, .inr rfl, .inr rfl, trivial⟩
  exact wb_retE (ev_var 2)
def m__law_borders (word : W) : (List W) := (List.map (fun (k : Int) => (cutL word none (some k))) (List.filter (fun (k : Int) => (decide ((cutL word none (some k)) = (cutL word (some ((word.length : Int) - k)) none)))) (rngI (1 : Int) (word.length : Int))))
theorem ok__law_borders (T : Tx K mg) : Fn P w K mg base 1 "_law_borders" ["word"] (spF K (fun x : W => [(wD x)]) (fun word : W => word.length ≤ 4096) fun x d => d = ((eL eW) (m__law_borders x))) := by
  have hN : (["word", "k"] : List Str).Nodup := by decide +kernel
  refine Fn.mkF (Nm := ["word", "k"]) T.d__law_borders ⟨rfl, rfl, rfl, hN, rfl, by decide +kernel, by decide +kernel⟩ (fun _ _ _ _ _ _ us hl => match us, hl with | [_], _ => rfl) (fun a => rfl) fun word hp O0 H0 f cdv A0 outer s H E hr => ?_
  have hp : word.length ≤ 4096 := hp
  show WB _ _ [.dat (wD word), .un] _ (Er ((eL eW) (List.map (fun (k : Int) => (cutL word none (some k))) (List.filter (fun (k : Int) => (decide ((cutL word none (some k)) = (cutL word (some ((word.length : Int) - k)) none)))) (rngI (1 : Int) (word.length : Int))))))
  exact wb_retE (EvN.ev (evn_lc1 [("k", 1)] (Lc1.mk (q := fun (k : Int) => (decide ((cutL word none (some k)) = (cutL word (some ((word.length : Int) - k)) none)))) (g := eI) (f := fun (k : Int) => (cutL word none (some k))) (ec := eW) (ei_rng2T T.b_range ev_int (ev_lenW T.b_len (ev_var 0) (by /-0-/ trivial)) (by /-1-/ trivial)) hN (by /-6-/ trivial) (fun k h1 _ _ _ _ _ => (eg_name 1 hN)) (fun k h1 _ _ _ _ _ => (wq_one (et_c (ev_slW (ev_var 0) eo_none (eo_some (ev_var 1)) (by /-2-/ trivial)) (ev_slW (ev_var 0) (eo_some (ev_subI (ev_lenW T.b_len (ev_var 0) (by /-3-/ trivial)) (ev_var 1))) eo_none (by /-4-/ trivial)) cp_eqW))) (fun k h1 h2 _ _ _ _ _ => (ev_slW (ev_var 0) eo_none (eo_some (ev_var 1)) (by /-5-/ trivial))))))
def m__law_power (one : Int) (many : Int) : Int := (List.foldl (fun (s0 : Int) (turn : Int) => (s0 * one)) (1 : Int) (rngI 0 many))
theorem ok__law_power (T : Tx K mg) : Fn P w K mg base 1 "_law_power" ["one", "many"] (spF K (fun x : Int × Int => [(iD x.1), (iD x.2)]) (fun x : Int × Int => match x with | (one, many) => 0 ≤ one ∧ one ≤ 1000 ∧ 0 ≤ many ∧ many ≤ 1000) fun x d => d = (iD (m__law_power x.1 x.2))) := by
  have hN : (["one", "many", "found", "turn"] : List Str).Nodup := by decide +kernel
  refine Fn.mkF (Nm := ["one", "many", "found", "turn"]) T.d__law_power ⟨rfl, rfl, rfl, hN, rfl, by decide +kernel, by decide +kernel⟩ (fun _ _ _ _ _ _ us hl => match us, hl with | [_, _], _ => rfl) (fun a => rfl) fun a hp O0 H0 f cdv A0 outer s H E hr => ?_
  obtain ⟨one, many⟩ := a
  have hp : 0 ≤ one ∧ one ≤ 1000 ∧ 0 ≤ many ∧ many ≤ 1000 := hp
  obtain ⟨p1, p2, p3, p4⟩ := (show 0 ≤ one ∧ one ≤ 1000 ∧ 0 ≤ many ∧ many ≤ 1000 from hp)
  show WB _ _ [.dat (iD one), .dat (iD many), .un, .un] _ (Er (iD (List.foldl (fun (s0 : Int) (turn : Int) => (s0 * one)) (1 : Int) (rngI 0 many))))
  refine wb_let 2 ev_int ?_ hN
  refine wb_for (g := eI) (fun s0 : Int => [.dat (iD one), .dat (iD many), .dat (iD s0), .un]) (fun (s0 : Int) (turn : Int) => (s0 * one)) (1 : Int) (fun (i0 : Nat) (s0 : Int) => True) (ei_rng1T T.b_range (ev_var 1) (by /-0-/ trivial)) ⟨.inl rfl, .inl rfl, .inl rfl, .inr rfl, trivial⟩ (by trivial) (fun i0 turn s0 ha0 hJ0 hs0 => ⟨(by trivial), EvG.wg (eg_name 3 hN) ?_⟩) (fun hk0 => ?_)
  ·
    refine wb_let 2 (ev_mulI (ev_var 2) (ev_var 0) (by /-1-/ trivial)) ?_ hN
    exact wb_goC (R := Unit) ⟨.inl rfl, .inl rfl, .inl rfl, .inr rfl, trivial⟩
  exact wb_retE (ev_var 2)
def m__law_counts (many : Int) (most : Int) : (List Int) := (List.foldl (fun (s0 : (List Int)) (size : Int) => (s0 ++ [((many * (ix s0 (size - (1 : Int)))) - (if (decide ((size % 2) = (0 : Int))) then (ix s0 (size / (2 : Int))) else (0 : Int)))])) [(1 : Int), many] (rngI (2 : Int) (most + (1 : Int))))
theorem ok__law_counts (T : Tx K mg) : Fn P w K mg base 1 "_law_counts" ["many", "most"] (spF K (fun x : Int × Int => [(iD x.1), (iD x.2)]) (fun x : Int × Int => match x with | (many, most) => 1 ≤ many ∧ many ≤ 3 ∧ 1 ≤ most ∧ most ≤ 7) fun x d => d = ((eL eI) (m__law_counts x.1 x.2))) := by
  have hN : (["many", "most", "found", "size"] : List Str).Nodup := by decide +kernel
  refine Fn.mkF (Nm := ["many", "most", "found", "size"]) T.d__law_counts ⟨rfl, rfl, rfl, hN, rfl, by decide +kernel, by decide +kernel⟩ (fun _ _ _ _ _ _ us hl => match us, hl with | [_, _], _ => rfl) (fun a => rfl) fun a hp O0 H0 f cdv A0 outer s H E hr => ?_
  obtain ⟨many, most⟩ := a
  have hp : 1 ≤ many ∧ many ≤ 3 ∧ 1 ≤ most ∧ most ≤ 7 := hp
  obtain ⟨p1, p2, p3, p4⟩ := (show 1 ≤ many ∧ many ≤ 3 ∧ 1 ≤ most ∧ most ≤ 7 from hp)
  show WB _ _ [.dat (iD many), .dat (iD most), .un, .un] _ (Er ((eL eI) (List.foldl (fun (s0 : (List Int)) (size : Int) => (s0 ++ [((many * (ix s0 (size - (1 : Int)))) - (if (decide ((size % 2) = (0 : Int))) then (ix s0 (size / (2 : Int))) else (0 : Int)))])) [(1 : Int), many] (rngI (2 : Int) (most + (1 : Int))))))
  refine wb_lowL (en := eI) (l := [(1 : Int), many]) 2 (evn_lstT (en := eI) (l := [(1 : Int), many]) (ea_cons ev_int (ea_cons (ev_var 0) ea_nil))) (fun qh1 hqh1 => ?_) hN
  refine wb_for (g := eI) (fun s0 : (List Int) => [.dat (iD many), .dat (iD most), owL qh1 eI s0, .un]) (fun (s0 : (List Int)) (size : Int) => (s0 ++ [((many * (ix s0 (size - (1 : Int)))) - (if (decide ((size % 2) = (0 : Int))) then (ix s0 (size / (2 : Int))) else (0 : Int)))])) [(1 : Int), many] (fun (i0 : Nat) (s0 : (List Int)) => s0.length = i0 + 2) (ei_rng2T T.b_range ev_int (ev_addI (ev_var 1) ev_int) (by /-0-/ trivial)) ⟨.inl rfl, .inl rfl, .inl rfl, .inr rfl, trivial⟩ (by rfl) (fun i0 size s0 ha0 hJ0 hs0 => ⟨(by (rw [List.length_append, hJ0]; rfl)), EvG.wg (eg_name 3 hN) ?_⟩) (fun hk0 => ?_)
  ·
    refine wb_app (en := eI) (v := ((many * (ix s0 (size - (1 : Int)))) - (if (decide ((size % 2) = (0 : Int))) then (ix s0 (size / (2 : Int))) else (0 : Int)))) 2 rfl (ev_subI (ev_mulI (ev_var 0) (ev_ixOt (en := eI) 2 rfl (ev_subI (ev_var 3) ev_int) (by /-1-/ have := rng_get ha0; exact ⟨by omega, by omega⟩)) (by /-2-/ trivial)) (ev_ifT (en := eI) (et_c (ev_odd (ev_var 3) (by /-3-/ have := rng_get ha0; omega)) ev_int cp_eqI) (fun h2 => (ev_ixOt (en := eI) 2 rfl (ev_fdiv (ev_var 3) ev_int (by /-4-/ trivial)) (by /-5-/ have := rng_get ha0; exact ⟨by omega, by omega⟩))) (fun h2 => ev_int))) (by /-6-/ have := rng_get ha0; omega) ?_
    exact wb_goC (R := Unit) ⟨.inl rfl, .inl rfl, .inl rfl, .inr rfl, trivial⟩
  refine wb_frz 2 rfl hqh1 ?_
  exact wb_retE (ev_var 2)
end
end Lw

set_option maxRecDepth 100000
set_option maxHeartbeats 4000000
namespace Lw
open PySem PySem.Spec PyProof.Rows L2 VL
local macro_rules | `(tactic| trivial) => `(tactic| first | assumption | (and_intros <;> first | assumption | omega) | exact ty_I | exact ty_W | exact ty_B | exact ty_N | exact ty_T | exact ty_L | omega | (refine sl_le ?_; first | omega | (rw [rngI_length]; omega) | exact Nat.le_trans (cutL_len _ _ _) (by omega) | exact Nat.le_trans (Nat.add_le_add_right (cutL_len _ _ _) _) (by simp only [List.length_cons, List.length_nil]; omega)) | exact Or.inr ⟨by omega, by omega⟩ | exact Or.inl ⟨by omega, by omega⟩ | (simp only [mem_rngI] at *; first | omega | exact Or.inr ⟨by omega, by omega⟩) | (simp only [InR, decide_eq_true_eq, Bool.not_eq_true', decide_eq_false_iff_not, mem_rngI, Bool.and_eq_true] at *; omega) | (exfalso; simp_all; done))
section
variable {P : Program} {w : World} {K : PySem.W.Frag} {mg : Str → Option Value} {base : Heap}
/-! ### the law of the waits -/
theorem pow_of (n k : Int) : m_power_of n k = n ^ k.toNat := pow_rng n k
theorem lpow_of (n k : Int) : m__law_power n k = n ^ k.toNat := pow_rng n k
theorem wait_by (m : Int) (w : W) : m_mean_wait_by m w = wSum m w := by
  unfold m_mean_wait_by m_over_by wSum
  rw [Int.min_self, rng1, sum_fil, List.map_map, sum_mul]
  congr 1
  apply List.map_congr_left
  intro j hj
  have hj := List.mem_range.mp hj
  simp only [Function.comp]
  rw [cut_suf hj, cut_pre, pow_of, show (1 + (j : Int) - 1).toNat = j from by omega]
  by_cases h : w.drop (w.length - (j + 1)) = w.take (j + 1)
  · rw [if_pos h, if_pos (decide_eq_true h), Int.pow_succ, Int.mul_comm]
  · rw [if_neg h, if_neg (by rw [decide_eq_false h]; exact Bool.false_ne_true), Int.mul_zero]
/-- the words that the law draws -/
structure Good (many : Int) (w : W) : Prop where
  m : 1 ≤ many ∧ many ≤ 3
  ne : w ≠ []
  len : w.length ≤ 12
  lt : ∀ c ∈ w, 97 ≤ c ∧ (c : Int) < 97 + many
theorem let_mem {many : Int} (hm : 1 ≤ many ∧ many ≤ 3) {c : Nat} (h : 97 ≤ c ∧ (c : Int) < 97 + many) : c ∈ m_letters_of many := by
  have : many = 1 ∨ many = 2 ∨ many = 3 := by omega
  rcases this with rfl | rfl | rfl
  · show c ∈ [97]; have : c = 97 := by omega
    simp [this]
  · show c ∈ [97, 98]; have : c = 97 ∨ c = 98 := by omega
    simpa using this
  · show c ∈ [97, 98, 99]; have : c = 97 ∨ c = 98 ∨ c = 99 := by omega
    simpa using this
theorem word_of {many : Int} (hm : 1 ≤ many ∧ many ≤ 3) {w : W} (hl : w.length ≤ 12) (h : ∀ c ∈ w, 97 ≤ c ∧ (c : Int) < 97 + many) : m_is_word_of many w = true := by
  unfold m_is_word_of m_is_text_of
  rw [Bool.and_eq_true, Bool.and_eq_true, decide_eq_true_iff]
  refine ⟨⟨rfl, ?_⟩, by omega⟩
  rw [List.all_map, List.all_eq_true]
  intro c hc
  exact decide_eq_true (let_mem hm (h c hc))
theorem worded {many : Int} (hm : 1 ≤ many ∧ many ≤ 3) {w : W} (hl : w.length ≤ 12) (h : ∀ c ∈ w, 97 ≤ c ∧ (c : Int) < 97 + many) : m_is_worded w = true :=
  word_of (many := 3) (by omega) hl fun c hc => ⟨(h c hc).1, by have := (h c hc).2; omega⟩
theorem letter_num {many : Int} (hm : 1 ≤ many ∧ many ≤ 3) : m_is_letter_number many = true := by
  have : many = 1 ∨ many = 2 ∨ many = 3 := by omega
  rcases this with rfl | rfl | rfl <;> rfl
theorem Good.pre {many : Int} {w : W} (G : Good many w) : w.length ≤ 900 ∧ m_is_letter_number many = true ∧ m_is_worded w = true ∧ m_is_word_of many w = true ∧ w ≠ [] ∧ 1 ≤ many ∧ many ≤ 3 :=
  ⟨by have := G.len; omega, letter_num G.m, worded G.m G.len G.lt, word_of G.m G.len G.lt, G.ne, G.m.1, G.m.2⟩
theorem Good.pre2 {many : Int} {w : W} (G : Good many w) : w.length ≤ 4096 ∧ w ≠ [] ∧ m_is_worded w = true := ⟨by have := G.len; omega, G.ne, worded G.m G.len G.lt⟩
theorem Good.wait {many : Int} {w : W} (G : Good many w) : m_mean_wait many w = wSum many w := by
  unfold m_mean_wait
  rw [if_neg, wait_by]
  rw [decide_eq_false G.ne, word_of G.m G.len G.lt]
  decide
/-- the root: a start k long, k a divisor, the word turned by k the word -/
theorem root_spec {w : W} (h : w ≠ []) : ∃ k : Nat, 0 < k ∧ k ≤ w.length ∧ w.length % k = 0 ∧ w.drop k ++ w.take k = w ∧ m_root_by w = w.take k := by
  have hm := ix_mem (root_in h)
  rw [List.map_id'' (fun a => rfl), List.mem_filter, mem_divs, decide_eq_true_iff] at hm
  obtain ⟨⟨⟨h1, h2⟩, h3⟩, h4⟩ := hm
  unfold m_root_by
  rw [List.map_id'' (fun a => rfl)]
  generalize ix (List.filter (fun each : Int => decide (m_turned_by w each = w)) (m_divisors_of w.length)) 0 = x at *
  obtain ⟨k, rfl⟩ := Int.eq_ofNat_of_zero_le (show 0 ≤ x by omega)
  refine ⟨k, by omega, by omega, by exact_mod_cast h3, ?_, cutL_to w k⟩
  rw [turned_nat (by omega)] at h4
  exact h4
/-! ### turns, roots, least words: what the program computes -/
theorem turned_rot {w : W} {k : Nat} (hk : k ≤ w.length) : m_turned_by w k = rot k w := turned_nat hk
theorem turns_mem {w x : W} : x ∈ m_turns_of w ↔ ∃ i : Nat, i < max 1 w.length ∧ x = rot i w := by
  unfold m_turns_of
  rw [List.mem_map]
  constructor
  · rintro ⟨s, hs, rfl⟩
    obtain ⟨h1, h2⟩ := mem_rngI.mp hs
    obtain ⟨i, rfl⟩ := Int.eq_ofNat_of_zero_le h1
    refine ⟨i, by omega, ?_⟩
    by_cases h : w = []
    · subst h
      have : i = 0 := by simp at h2; omega
      subst this; rfl
    · have := List.length_pos_iff.mpr h
      exact turned_rot (by omega)
  · rintro ⟨i, hi, rfl⟩
    refine ⟨(i : Int), mem_rngI.mpr ⟨by omega, by omega⟩, ?_⟩
    by_cases h : w = []
    · subst h
      have : i = 0 := by simp at hi; omega
      subst this; rfl
    · have := List.length_pos_iff.mpr h
      exact turned_rot (by omega)
theorem rngI_sorted (a b : Int) : (rngI a b).Pairwise (· < ·) := by
  unfold rngI
  rw [List.pairwise_map]
  exact List.pairwise_lt_range.imp fun h => by omega
theorem head_min {l : List Int} (hs : l.Pairwise (· < ·)) {x : Int} (hx : x ∈ l) : ix l 0 ≤ x := by
  cases l with
  | nil => exact absurd hx List.not_mem_nil
  | cons y l =>
    rw [ix_zero]
    rcases List.mem_cons.mp hx with e | e
    · rw [e]; exact Int.le_refl _
    · have := (List.pairwise_cons.mp hs).1 x e
      omega
theorem root_min {w : W} {d : Nat} (h0 : 0 < d) (hd : d ≤ w.length) (hm : w.length % d = 0) (hr : rot d w = w) : (m_root_by w).length ≤ d := by
  unfold m_root_by
  rw [List.map_id'' (fun a => rfl)]
  have hs : (List.filter (fun each : Int => decide (m_turned_by w each = w)) (m_divisors_of w.length)).Pairwise (· < ·) := by
    unfold m_divisors_of
    rw [List.map_id'' (fun a => rfl)]
    exact ((rngI_sorted _ _).filter _).filter _
  have hx : (d : Int) ∈ List.filter (fun each : Int => decide (m_turned_by w each = w)) (m_divisors_of w.length) := by
    rw [List.mem_filter, mem_divs, decide_eq_true_iff]
    exact ⟨⟨by omega, by exact_mod_cast hm⟩, by rw [turned_rot hd]; exact hr⟩
  have hmin := head_min hs hx
  have hin := ix_mem (inR_zero (List.ne_nil_of_mem hx))
  rw [List.mem_filter, mem_divs] at hin
  generalize ix (List.filter (fun each : Int => decide (m_turned_by w each = w)) (m_divisors_of w.length)) 0 = z at *
  obtain ⟨k, rfl⟩ := Int.eq_ofNat_of_zero_le (show 0 ≤ z by omega)
  rw [cutL_to, List.length_take]
  omega
theorem whole_prim {w : W} (h : w ≠ []) : m_is_whole_by w = true ↔ Prim w := by
  unfold m_is_whole_by
  rw [decide_eq_false h, Bool.not_false, Bool.true_and, decide_eq_true_iff]
  constructor
  · intro e j h1 h2 hr
    obtain ⟨d, d1, d2, d3, d4⟩ := rot_div j j (Nat.le_refl _) h1 h2 hr
    have := root_min d1 (by omega) d3 d4
    rw [e] at this
    omega
  · intro hp
    obtain ⟨k, k1, k2, k3, k4, k5⟩ := root_spec h
    rw [k5]
    rcases Nat.lt_or_ge k w.length with z | z
    · exact absurd k4 (hp k k1 z)
    · exact List.take_of_length_le z
theorem ring_spec (w : W) : (∃ i : Nat, i < max 1 w.length ∧ m_ring_by w = rot i w) ∧ ∀ i : Nat, i < max 1 w.length → m_ring_by w ≤ rot i w := by
  have h := minW_spec (turns_ne w)
  exact ⟨turns_mem.mp h.1, fun i hi => h.2 _ (turns_mem.mpr ⟨i, hi, rfl⟩)⟩
theorem least_lyn {w : W} : m_is_least_by w = true ↔ Lyn w := by
  unfold m_is_least_by Lyn
  rw [Bool.and_eq_true, Bool.not_eq_true', decide_eq_false_iff_not, List.all_map, List.all_eq_true]
  refine and_congr_right fun hne => ?_
  have e1 : cutL (m_ends_of w) (some 1) none = (m_ends_of w).drop 1 := cutL_from _ 1
  rw [e1]
  unfold m_ends_of
  rw [rng0, List.map_map, ← List.map_drop]
  constructor
  · intro h i h1 h2
    have := h (w.drop i) (List.mem_map.mpr ⟨i, ?_, ?_⟩)
    · exact of_decide_eq_true this
    · rw [List.mem_iff_getElem?]
      exact ⟨i - 1, by rw [List.getElem?_drop, show 1 + (i - 1) = i from by omega, List.getElem?_range h2]⟩
    · show cutL w (some (i : Int)) none = _
      exact cutL_from w i
  · intro h x hx
    obtain ⟨i, hi, rfl⟩ := List.mem_map.mp hx
    obtain ⟨j, hj⟩ := List.mem_iff_getElem?.mp hi
    rw [List.getElem?_drop] at hj
    have hj2 := (List.getElem?_eq_some_iff.mp hj)
    obtain ⟨h1, h2⟩ := hj2
    rw [List.getElem_range] at h2
    rw [List.length_range] at h1
    refine decide_eq_true ?_
    show w < cutL w (some (i : Int)) none
    rw [cutL_from]
    exact h i (by omega) (by omega)
/-- the ring of a whole word -/
theorem ring_lyn {w : W} (h : w ≠ []) (hp : Prim w) : Lyn (m_ring_by w) := by
  obtain ⟨⟨i, hi, e⟩, hm⟩ := ring_spec w
  have hl := List.length_pos_iff.mpr h
  have hi2 : i < w.length := by omega
  have hlr : (m_ring_by w).length = w.length := by rw [e, rot_len]
  refine lyn_min (fun z => by rw [z] at hlr; simp at hlr; omega) (by rw [e]; exact prim_rot (by omega) hp) fun j hj => ?_
  rw [hlr] at hj
  have e2 : ∃ k, k < w.length ∧ rot j (m_ring_by w) = rot k w := by
    rw [e]
    rcases Nat.lt_or_ge w.length (i + j) with z | z
    · exact ⟨i + j - w.length, by omega, rot_over (by omega) (by omega) z⟩
    · rcases Nat.lt_or_ge (i + j) w.length with z2 | z2
      · exact ⟨i + j, z2, rot_add (by omega)⟩
      · refine ⟨0, hl, ?_⟩
        rw [rot_add z, show i + j = w.length from by omega, rot_all, rot_zero]
  obtain ⟨k, hk, ek⟩ := e2
  rw [ek]
  exact hm k (by omega)
/-! ### borders: what the program computes -/
theorem borders_mem {w v : W} : v ∈ m_borders_by w ↔ ∃ k, Brd w k ∧ v = w.take k := by
  unfold m_borders_by
  rw [rng1', List.mem_map]
  constructor
  · rintro ⟨s, hs, rfl⟩
    rw [List.mem_filter] at hs
    obtain ⟨h1, h2⟩ := hs
    obtain ⟨j, hj, rfl⟩ := List.mem_map.mp h1
    have hj := List.mem_range.mp hj
    have h2 := of_decide_eq_true h2
    rw [cut_suf (by omega), cut_pre] at h2
    exact ⟨j + 1, ⟨by omega, by omega, h2⟩, cut_pre⟩
  · rintro ⟨k, ⟨h1, h2, h3⟩, rfl⟩
    refine ⟨1 + ((k - 1 : Nat) : Int), List.mem_filter.mpr ⟨List.mem_map.mpr ⟨k - 1, List.mem_range.mpr (by omega), rfl⟩, decide_eq_true ?_⟩, ?_⟩
    · rw [cut_suf (by omega), cut_pre, show k - 1 + 1 = k from by omega]
      exact h3
    · rw [cut_pre, show k - 1 + 1 = k from by omega]
theorem borders_nil {w : W} : m_borders_by w = [] ↔ ∀ k, ¬ Brd w k := by
  constructor
  · intro h k hk
    have := borders_mem.mpr ⟨k, hk, rfl⟩
    rw [h] at this
    exact absurd this List.not_mem_nil
  · intro h
    refine List.eq_nil_iff_forall_not_mem.mpr fun v hv => ?_
    obtain ⟨k, hk, _⟩ := borders_mem.mp hv
    exact h k hk
/-- the first border is the shortest -/
theorem borders_first {w : W} (h : m_borders_by w ≠ []) : ∃ k, Brd w k ∧ ix (m_borders_by w) 0 = w.take k ∧ ∀ j, Brd w j → k ≤ j := by
  have hin := ix_mem (inR_zero h)
  obtain ⟨k, hk, e⟩ := borders_mem.mp hin
  refine ⟨k, hk, e, fun j hj => ?_⟩
  have hs : ((m_borders_by w).map fun v => (v.length : Int)).Pairwise (· < ·) := by
    unfold m_borders_by
    rw [List.map_map, List.pairwise_map]
    refine ((rngI_sorted _ _).filter _).imp_of_mem fun {a b} ha hb hab => ?_
    rw [List.mem_filter] at ha hb
    obtain ⟨a1, a2⟩ := mem_rngI.mp ha.1
    obtain ⟨b1, b2⟩ := mem_rngI.mp hb.1
    show ((cutL w none (some a)).length : Int) < (cutL w none (some b)).length
    obtain ⟨a', rfl⟩ := Int.eq_ofNat_of_zero_le (show 0 ≤ a by omega)
    obtain ⟨b', rfl⟩ := Int.eq_ofNat_of_zero_le (show 0 ≤ b by omega)
    rw [cutL_to, cutL_to, List.length_take, List.length_take]
    omega
  have hx : (j : Int) ∈ (m_borders_by w).map fun v => (v.length : Int) := by
    refine List.mem_map.mpr ⟨w.take j, borders_mem.mpr ⟨j, hj, rfl⟩, ?_⟩
    rw [List.length_take]
    have := hj.2.1
    omega
  have := head_min hs hx
  have e2 : ix ((m_borders_by w).map fun v => (v.length : Int)) 0 = (ix (m_borders_by w) 0).length := by
    cases hb : m_borders_by w with
    | nil => exact absurd hb h
    | cons y l => rw [List.map_cons, ix_zero, ix_zero]
  rw [e2, e, List.length_take] at this
  have := hk.2.1
  omega
theorem first_unb {w : W} (h : m_borders_by w ≠ []) : m_borders_by (ix (m_borders_by w) 0) = [] ∧ 2 * (ix (m_borders_by w) 0).length ≤ w.length := by
  obtain ⟨k, hk, e, hm⟩ := borders_first h
  obtain ⟨k1, k2, k3⟩ := hk
  rw [e]
  have hl : (w.take k).length = k := by rw [List.length_take]; omega
  refine ⟨borders_nil.mpr fun j hj => ?_, ?_⟩
  · have h2 := hj.2.1
    rw [hl] at h2
    have := hm j (brd_in ⟨k1, k2, k3⟩ hj)
    omega
  · rw [hl]
    refine Nat.le_of_not_lt fun z => ?_
    have h1 := brd_half ⟨k1, k2, k3⟩ z
    have := hm _ h1
    omega
theorem unb_wait {m : Int} {w : W} (hne : w ≠ []) (h : ∀ k, ¬ Brd w k) : wSum m w = m ^ w.length := by
  rw [wSum_last m hne]
  have : ((List.range (w.length - 1)).map fun j => if w.drop (w.length - (j + 1)) = w.take (j + 1) then m ^ (j + 1) else 0).sum = 0 := by
    have : ((List.range (w.length - 1)).map fun j => if w.drop (w.length - (j + 1)) = w.take (j + 1) then m ^ (j + 1) else 0) = (List.range (w.length - 1)).map fun _ => 0 := by
      apply List.map_congr_left
      intro j hj
      have hj := List.mem_range.mp hj
      rw [if_neg]
      intro z
      exact h (j + 1) ⟨by omega, by omega, z.symm⟩
    rw [this]
    generalize List.range (w.length - 1) = l
    induction l with
    | nil => rfl
    | cons x l ih => rw [List.map_cons, List.sum_cons, ih]; rfl
  rw [this, Int.zero_add]
end
end Lw

set_option maxRecDepth 100000
set_option maxHeartbeats 4000000
namespace Lw
open PySem PySem.Spec PyProof.Rows L2 VL
local macro_rules | `(tactic| trivial) => `(tactic| first | assumption | (and_intros <;> first | assumption | omega) | exact ty_I | exact ty_W | exact ty_B | exact ty_N | exact ty_T | exact ty_L | omega | (refine sl_le ?_; first | omega | (rw [rngI_length]; omega) | exact Nat.le_trans (cutL_len _ _ _) (by omega) | exact Nat.le_trans (Nat.add_le_add_right (cutL_len _ _ _) _) (by simp only [List.length_cons, List.length_nil]; omega)) | exact Or.inr ⟨by omega, by omega⟩ | exact Or.inl ⟨by omega, by omega⟩ | (simp only [mem_rngI] at *; first | omega | exact Or.inr ⟨by omega, by omega⟩) | (simp only [InR, decide_eq_true_eq, Bool.not_eq_true', decide_eq_false_iff_not, mem_rngI, Bool.and_eq_true] at *; omega) | (exfalso; simp_all; done))
section
variable {P : Program} {w : World} {K : PySem.W.Frag} {mg : Str → Option Value} {base : Heap}
/-- words of up to twelve of the letters -/
structure Ok3 (w : W) : Prop where
  len : w.length ≤ 12
  lt : ∀ c ∈ w, 97 ≤ c ∧ (c : Int) < 97 + 3
theorem Good.ok {many : Int} {w : W} (G : Good many w) : Ok3 w := ⟨G.len, fun c hc => ⟨(G.lt c hc).1, by have h1 := (G.lt c hc).2; have h2 := G.m; omega⟩⟩
namespace Ok3
variable {w v : W}
theorem wd (o : Ok3 w) : m_is_worded w = true := worded (many := 3) (by omega) o.len o.lt
theorem l4096 (o : Ok3 w) : w.length ≤ 4096 := by have := o.len; omega
theorem sl (o : Ok3 w) : w.length ≤ sizeLine := sl_le (by have := o.len; omega)
theorem p1 (o : Ok3 w) : w.length ≤ 4096 ∧ m_is_worded w = true := ⟨o.l4096, o.wd⟩
theorem p12 (o : Ok3 w) : w.length ≤ 12 ∧ m_is_worded w = true := ⟨o.len, o.wd⟩
theorem gw (o : Ok3 w) : Gw w := fun c hc => by have := (o.lt c hc).2; omega
theorem rt (o : Ok3 w) (i : Nat) : Ok3 (rot i w) := ⟨by rw [rot_len]; exact o.len, fun c hc => o.lt c ((List.mem_append.mp hc).elim List.mem_of_mem_drop List.mem_of_mem_take)⟩
theorem tk (o : Ok3 w) (i : Nat) : Ok3 (w.take i) := ⟨by rw [List.length_take]; have := o.len; omega, fun c hc => o.lt c (List.mem_of_mem_take hc)⟩
theorem border (o : Ok3 w) (h : v ∈ m_borders w) : Ok3 v := by
  obtain ⟨k, _, rfl⟩ := borders_mem.mp h
  exact o.tk k
theorem borders (o : Ok3 w) : ∀ a ∈ m_borders w, Gw a := fun a h => (o.border h).gw
theorem ring (o : Ok3 w) : Ok3 (m_ring w) := by
  obtain ⟨⟨i, _, e⟩, _⟩ := ring_spec w
  show Ok3 (m_ring_by w)
  rw [e]
  exact o.rt i
theorem first (o : Ok3 w) (h : (!decide (m_borders w = [])) = true) : Ok3 (ix (m_borders w) 0) := o.border (ix_mem (inR_zero (by simpa using h)))
end Ok3
theorem nogw : ∀ a ∈ ([] : List W), Gw a := fun _ h => absurd h List.not_mem_nil
theorem inR_ne {α : Type} [DecidableEq α] {l : List α} (h : (!decide (l = [])) = true) : InR l 0 := inR_zero (by simpa using h)
theorem all_turns_mem {w v : W} : v ∈ m_all_turns w ↔ ∃ i : Nat, i < max 1 w.length ∧ v = rot i w := by
  rw [← turns_mem]
  show v ∈ m_unlike_turns w ↔ _
  unfold m_unlike_turns
  rw [mem_sortW]
  have := putA_foldKeys (kf := fun t : W => t) (vf := fun _ : W => true) v (m_turns_of w) []
  rw [List.map_nil, List.map_id'' (fun a => rfl)] at this
  exact this.trans ⟨fun h => h.elim (fun z => absurd z List.not_mem_nil) id, .inr⟩
theorem Ok3.turn {w v : W} (o : Ok3 w) (h : v ∈ m_all_turns w) : Ok3 v := by
  obtain ⟨i, _, rfl⟩ := all_turns_mem.mp h
  exact o.rt i
theorem Ok3.turns {w : W} (o : Ok3 w) : ∀ b ∈ m_all_turns w, Gw b := fun b h => (o.turn h).gw
theorem Ok3.tl {w : W} (o : Ok3 w) : (m_all_turns w).length ≤ sizeLine := by
  show (m_unlike_turns w).length ≤ _
  unfold m_unlike_turns
  have h1 := putA_fold (kf := fun t : W => t) (vf := fun _ : W => true) (m_turns_of w) []
  have h2 := turns_len w
  have h3 := o.len
  rw [List.length_nil] at h1
  rw [sortW, List.length_mergeSort, List.length_map]
  exact sl_le (Nat.le_trans h1 (by omega))
def m__law_asked (many : Int) (word : W) : Bool := (if (!decide ((m_borders word) = (m__law_borders word))) then false else (if ((decide ((m_borders word) = ([] : List W))) && ((!decide ((m_is_whole_turns word) = true)) || ((!decide ((m_mean_wait many word) = (m__law_power many (word.length : Int)))) || (!decide ((m_least_period word) = (word.length : Int)))))) then false else (if ((!decide ((m_borders word) = ([] : List W))) && ((!decide ((m_borders (ix (m_borders word) (0 : Int))) = ([] : List W))) || (decide ((word.length : Int) < ((2 : Int) * ((ix (m_borders word) (0 : Int)).length : Int)))))) then false else (if ((m_is_least word) && (!decide ((m_borders word) = ([] : List W)))) then false else (if (!decide ((m_is_whole_turns word) = true)) then true else ((decide ((m_is_least (m_ring word)) = true)) && ((decide ((m_ring word) ∈ (m_all_turns word))) && ((decide ((m_borders (m_ring word)) = ([] : List W))) && (List.any (List.map (fun (one : W) => (decide ((m_borders one) = ([] : List W)))) (m_all_turns word)) id)))))))))
theorem ok__law_asked (T : Tx K mg) : Fn P w K mg base 7 "_law_asked" ["many", "word"] (spF K (fun x : Int × W => [(iD x.1), (wD x.2)]) (fun x : Int × W => match x with | (many, word) => Good many word) fun x d => d = (bD (m__law_asked x.1 x.2))) := by
  have hN : (["many", "word", "told", "turns_now", "one"] : List Str).Nodup := by decide +kernel
  refine Fn.mkF (Nm := ["many", "word", "told", "turns_now", "one"]) T.d__law_asked ⟨rfl, rfl, rfl, hN, rfl, by decide +kernel, by decide +kernel⟩ (fun _ _ _ _ _ _ us hl => match us, hl with | [_, _], _ => rfl) (fun a => rfl) fun a hp O0 H0 f cdv A0 outer s H E hr => ?_
  obtain ⟨many, word⟩ := a
  have hp : Good many word := hp
  have o := hp.ok
  have m1 := hp.m
  have hl := hp.len
  have ob := o.borders
  have orr := o.ring
  have orb := orr.borders
  show WB _ _ [.dat (iD many), .dat (wD word), .un, .un, .un] _ (Er (bD (if (!decide ((m_borders word) = (m__law_borders word))) then false else (if ((decide ((m_borders word) = ([] : List W))) && ((!decide ((m_is_whole_turns word) = true)) || ((!decide ((m_mean_wait many word) = (m__law_power many (word.length : Int)))) || (!decide ((m_least_period word) = (word.length : Int)))))) then false else (if ((!decide ((m_borders word) = ([] : List W))) && ((!decide ((m_borders (ix (m_borders word) (0 : Int))) = ([] : List W))) || (decide ((word.length : Int) < ((2 : Int) * ((ix (m_borders word) (0 : Int)).length : Int)))))) then false else (if ((m_is_least word) && (!decide ((m_borders word) = ([] : List W)))) then false else (if (!decide ((m_is_whole_turns word) = true)) then true else ((decide ((m_is_least (m_ring word)) = true)) && ((decide ((m_ring word) ∈ (m_all_turns word))) && ((decide ((m_borders (m_ring word)) = ([] : List W))) && (List.any (List.map (fun (one : W) => (decide ((m_borders one) = ([] : List W)))) (m_all_turns word)) id)))))))))))
  refine wb_let 2 (ev_call (ok_borders T) hr (ea_cons (ev_var 1) ea_nil) ⟨word, rfl, (by /-0-/ first | exact o.p1 | exact o.l4096 | exact ob | exact nogw | exact hp.pre | exact hp.pre2 | exact o.p12 | exact orr.p1 | exact orb | exact o.tl | trivial), rfl⟩) ?_ hN
  refine wb_ifG (F := fun m => Er (eB m)) (et_c (EvN.ev (evn_listT (en := eW) T.b_list (ev_var 2))) (ev_call (ok__law_borders T) hr (ea_cons (ev_var 1) ea_nil) ⟨word, rfl, (by /-1-/ first | exact o.p1 | exact o.l4096 | exact ob | exact nogw | exact hp.pre | exact hp.pre2 | exact o.p12 | exact orr.p1 | exact orb | exact o.tl | trivial), rfl⟩) (cp_neT (pyL pyW) hr.units (by /-2-/ first | exact o.p1 | exact o.l4096 | exact ob | exact nogw | exact hp.pre | exact hp.pre2 | exact o.p12 | exact orr.p1 | exact orb | exact o.tl | trivial) (by /-3-/ first | exact o.p1 | exact o.l4096 | exact ob | exact nogw | exact hp.pre | exact hp.pre2 | exact o.p12 | exact orr.p1 | exact orb | exact o.tl | trivial))) (fun h1 => ?_) (fun h1 => ?_)
  ·
    exact wb_retG (F := fun d => Er d) ev_bl rfl
  ·
    refine wb_ifG (F := fun m => Er (eB m)) (et_w (ew_and (et_c (ev_var 2) (ev_tup ea_nil) (cp_eqT (pyT pyW) hr.units (by /-4-/ first | exact o.p1 | exact o.l4096 | exact ob | exact nogw | exact hp.pre | exact hp.pre2 | exact o.p12 | exact orr.p1 | exact orb | exact o.tl | trivial) (by /-5-/ first | exact o.p1 | exact o.l4096 | exact ob | exact nogw | exact hp.pre | exact hp.pre2 | exact o.p12 | exact orr.p1 | exact orb | exact o.tl | trivial))) (fun h4 => (ew_and1 (et_w (ew_or (et_c (ev_call (ok_is_whole_turns T) hr (ea_cons (ev_var 1) ea_nil) ⟨word, rfl, (by /-6-/ first | exact o.p1 | exact o.l4096 | exact ob | exact nogw | exact hp.pre | exact hp.pre2 | exact o.p12 | exact orr.p1 | exact orb | exact o.tl | trivial), rfl⟩) ev_bl cp_notB) (fun h3 => (ew_or (et_c (ev_call (ok_mean_wait T) hr (ea_cons (ev_var 0) (ea_cons (ev_var 1) ea_nil)) ⟨(many, word), rfl, (by /-7-/ dsimp only; first | exact o.p1 | exact o.l4096 | exact ob | exact nogw | exact hp.pre | exact hp.pre2 | exact o.p12 | exact orr.p1 | exact orb | exact o.tl | trivial), rfl⟩) (ev_call (ok__law_power T) hr (ea_cons (ev_var 0) (ea_cons (ev_lenW T.b_len (ev_var 1) (by /-8-/ first | exact o.p1 | exact o.l4096 | exact ob | exact nogw | exact hp.pre | exact hp.pre2 | exact o.p12 | exact orr.p1 | exact orb | exact o.tl | trivial)) ea_nil)) ⟨(many, (word.length : Int)), rfl, (by /-9-/ dsimp only; first | exact o.p1 | exact o.l4096 | exact ob | exact nogw | exact hp.pre | exact hp.pre2 | exact o.p12 | exact orr.p1 | exact orb | exact o.tl | trivial), rfl⟩) cp_neI) (fun h2 => (ew_or1 (et_c (ev_call (ok_least_period T) hr (ea_cons (ev_var 1) ea_nil) ⟨word, rfl, (by /-10-/ first | exact o.p1 | exact o.l4096 | exact ob | exact nogw | exact hp.pre | exact hp.pre2 | exact o.p12 | exact orr.p1 | exact orb | exact o.tl | trivial), rfl⟩) (ev_lenW T.b_len (ev_var 1) (by /-11-/ first | exact o.p1 | exact o.l4096 | exact ob | exact nogw | exact hp.pre | exact hp.pre2 | exact o.p12 | exact orr.p1 | exact orb | exact o.tl | trivial)) cp_neI))))))))))) (fun h5 => ?_) (fun h5 => ?_)
    ·
      exact wb_retG (F := fun d => Er d) ev_bl rfl
    ·
      refine wb_ifG (F := fun m => Er (eB m)) (et_w (ew_and (et_c (ev_var 2) (ev_tup ea_nil) (cp_neT (pyT pyW) hr.units (by /-12-/ first | exact o.p1 | exact o.l4096 | exact ob | exact nogw | exact hp.pre | exact hp.pre2 | exact o.p12 | exact orr.p1 | exact orb | exact o.tl | trivial) (by /-13-/ first | exact o.p1 | exact o.l4096 | exact ob | exact nogw | exact hp.pre | exact hp.pre2 | exact o.p12 | exact orr.p1 | exact orb | exact o.tl | trivial))) (fun h7 => (ew_and1 (et_w (ew_or (et_c (ev_call (ok_borders T) hr (ea_cons (ev_ixTt (en := eW) (ev_var 2) ev_int (by /-14-/ exact inR_ne h7)) ea_nil) ⟨(ix (m_borders word) (0 : Int)), rfl, (by /-15-/ exact (o.first h7).p1), rfl⟩) (ev_tup ea_nil) (cp_neT (pyT pyW) hr.units (by /-16-/ exact (o.first h7).borders) (by /-17-/ first | exact o.p1 | exact o.l4096 | exact ob | exact nogw | exact hp.pre | exact hp.pre2 | exact o.p12 | exact orr.p1 | exact orb | exact o.tl | trivial))) (fun h6 => (ew_or1 (et_c (ev_mulI ev_int (ev_lenW T.b_len (ev_ixTt (en := eW) (ev_var 2) ev_int (by /-18-/ exact inR_ne h7)) (by /-19-/ exact (o.first h7).sl)) (by /-20-/ first | exact o.p1 | exact o.l4096 | exact ob | exact nogw | exact hp.pre | exact hp.pre2 | exact o.p12 | exact orr.p1 | exact orb | exact o.tl | trivial)) (ev_lenW T.b_len (ev_var 1) (by /-21-/ first | exact o.p1 | exact o.l4096 | exact ob | exact nogw | exact hp.pre | exact hp.pre2 | exact o.p12 | exact orr.p1 | exact orb | exact o.tl | trivial)) cp_gt))))))))) (fun h8 => ?_) (fun h8 => ?_)
      ·
        exact wb_retG (F := fun d => Er d) ev_bl rfl
      ·
        refine wb_ifG (F := fun m => Er (eB m)) (et_w (ew_and (et_val (ev_call (ok_is_least T) hr (ea_cons (ev_var 1) ea_nil) ⟨word, rfl, (by /-22-/ first | exact o.p1 | exact o.l4096 | exact ob | exact nogw | exact hp.pre | exact hp.pre2 | exact o.p12 | exact orr.p1 | exact orb | exact o.tl | trivial), rfl⟩)) (fun h9 => (ew_and1 (et_c (ev_var 2) (ev_tup ea_nil) (cp_neT (pyT pyW) hr.units (by /-23-/ first | exact o.p1 | exact o.l4096 | exact ob | exact nogw | exact hp.pre | exact hp.pre2 | exact o.p12 | exact orr.p1 | exact orb | exact o.tl | trivial) (by /-24-/ first | exact o.p1 | exact o.l4096 | exact ob | exact nogw | exact hp.pre | exact hp.pre2 | exact o.p12 | exact orr.p1 | exact orb | exact o.tl | trivial))))))) (fun h10 => ?_) (fun h10 => ?_)
        ·
          exact wb_retG (F := fun d => Er d) ev_bl rfl
        ·
          refine wb_ifG (F := fun m => Er (eB m)) (et_c (ev_call (ok_is_whole_turns T) hr (ea_cons (ev_var 1) ea_nil) ⟨word, rfl, (by /-25-/ first | exact o.p1 | exact o.l4096 | exact ob | exact nogw | exact hp.pre | exact hp.pre2 | exact o.p12 | exact orr.p1 | exact orb | exact o.tl | trivial), rfl⟩) ev_bl cp_notB) (fun h11 => ?_) (fun h11 => ?_)
          ·
            exact wb_retG (F := fun d => Er d) ev_bl rfl
          ·
            refine wb_let 3 (ev_call (ok_all_turns T) hr (ea_cons (ev_var 1) ea_nil) ⟨word, rfl, (by /-26-/ first | exact o.p1 | exact o.l4096 | exact ob | exact nogw | exact hp.pre | exact hp.pre2 | exact o.p12 | exact orr.p1 | exact orb | exact o.tl | trivial), rfl⟩) ?_ hN
            exact wb_retE (ev_and (ev_c (ev_call (ok_is_least T) hr (ea_cons (ev_call (ok_ring T) hr (ea_cons (ev_var 1) ea_nil) ⟨word, rfl, (by /-27-/ first | exact o.p1 | exact o.l4096 | exact ob | exact nogw | exact hp.pre | exact hp.pre2 | exact o.p12 | exact orr.p1 | exact orb | exact o.tl | trivial), rfl⟩) ea_nil) ⟨(m_ring word), rfl, (by /-28-/ first | exact o.p1 | exact o.l4096 | exact ob | exact nogw | exact hp.pre | exact hp.pre2 | exact o.p12 | exact orr.p1 | exact orb | exact o.tl | trivial), rfl⟩) ev_bl cp_isB) (fun h16 => (ev_and (ev_c (ev_call (ok_ring T) hr (ea_cons (ev_var 1) ea_nil) ⟨word, rfl, (by /-29-/ first | exact o.p1 | exact o.l4096 | exact ob | exact nogw | exact hp.pre | exact hp.pre2 | exact o.p12 | exact orr.p1 | exact orb | exact o.tl | trivial), rfl⟩) (ev_var 3) (cp_inT pyW (by exact room65 hr) (by /-30-/ exact orr.gw) (by /-31-/ exact o.turns))) (fun h15 => (ev_and (ev_c (ev_call (ok_borders T) hr (ea_cons (ev_call (ok_ring T) hr (ea_cons (ev_var 1) ea_nil) ⟨word, rfl, (by /-32-/ first | exact o.p1 | exact o.l4096 | exact ob | exact nogw | exact hp.pre | exact hp.pre2 | exact o.p12 | exact orr.p1 | exact orb | exact o.tl | trivial), rfl⟩) ea_nil) ⟨(m_ring word), rfl, (by /-33-/ first | exact o.p1 | exact o.l4096 | exact ob | exact nogw | exact hp.pre | exact hp.pre2 | exact o.p12 | exact orr.p1 | exact orb | exact o.tl | trivial), rfl⟩) (ev_tup ea_nil) (cp_eqT (pyT pyW) hr.units (by /-34-/ first | exact o.p1 | exact o.l4096 | exact ob | exact nogw | exact hp.pre | exact hp.pre2 | exact o.p12 | exact orr.p1 | exact orb | exact o.tl | trivial) (by /-35-/ first | exact o.p1 | exact o.l4096 | exact ob | exact nogw | exact hp.pre | exact hp.pre2 | exact o.p12 | exact orr.p1 | exact orb | exact o.tl | trivial))) (fun h14 => (ev_one (ev_anyT T.b_any (EvN.ev (evn_lc1M [("one", 4)] (Lc1.mk (q := fun (one : W) => true) (g := eW) (f := fun (one : W) => (decide ((m_borders one) = ([] : List W)))) (ec := eB) (ei_tupT (en := eW) (ev_var 3)) hN (by /-39-/ first | exact o.p1 | exact o.l4096 | exact ob | exact nogw | exact hp.pre | exact hp.pre2 | exact o.p12 | exact orr.p1 | exact orb | exact o.tl | trivial) (fun one h12 _ _ _ _ _ => (eg_name 4 hN)) (fun one h12 _ _ _ _ _ => wq_nil) (fun one h12 h13 _ _ _ _ _ => (ev_c (ev_call (ok_borders T) hr (ea_cons (ev_var 4) ea_nil) ⟨one, rfl, (by /-36-/ exact (o.turn ‹_ ∈ m_all_turns _›).p1), rfl⟩) (ev_tup ea_nil) (cp_eqT (pyT pyW) hr.units (by /-37-/ exact (o.turn ‹_ ∈ m_all_turns _›).borders) (by /-38-/ first | exact o.p1 | exact o.l4096 | exact ob | exact nogw | exact hp.pre | exact hp.pre2 | exact o.p12 | exact orr.p1 | exact orb | exact o.tl | trivial)))))))))))))))
/-- what the law asks of a word holds -/
theorem asked_true {many : Int} {w : W} (G : Good many w) : m__law_asked many w = true := by
  have o := G.ok
  have hb : m_borders w = m__law_borders w := rfl
  have hw : m_is_whole_turns w = m_is_whole_by w := rfl
  have hbb : m_borders w = m_borders_by w := rfl
  unfold m__law_asked
  rw [if_neg (by simp [hb]), if_neg, if_neg, if_neg]
  · by_cases c : m_is_whole_turns w = true
    · rw [if_neg (by simp [c])]
      have hp : Prim w := (whole_prim G.ne).mp c
      have hl := ring_lyn G.ne hp
      have h1 : m_is_least (m_ring w) = true := least_lyn.mpr hl
      have h2 : m_ring w ∈ m_all_turns w := by
        obtain ⟨⟨i, hi, e⟩, _⟩ := ring_spec w
        exact all_turns_mem.mpr ⟨i, hi, e⟩
      have h3 : m_borders (m_ring w) = [] := borders_nil.mpr (lyn_unb hl)
      rw [h1, decide_eq_true h2, decide_eq_true h3]
      simp only [decide_true, Bool.true_and]
      rw [List.any_map, List.any_eq_true]
      exact ⟨m_ring w, h2, decide_eq_true h3⟩
    · rw [if_pos (by simp [c])]
  · intro z
    rw [Bool.and_eq_true] at z
    have h1 := lyn_unb (least_lyn.mp z.1)
    have h2 : m_borders w = [] := borders_nil.mpr h1
    rw [h2] at z
    simp at z
  · intro z
    rw [Bool.and_eq_true, Bool.or_eq_true] at z
    have hne : m_borders w ≠ [] := by simpa using z.1
    obtain ⟨h1, h2⟩ := first_unb (show m_borders_by w ≠ [] from hne)
    rcases z.2 with y | y
    · have : m_borders (ix (m_borders w) 0) = [] := h1
      rw [this] at y
      simp at y
    · have y := of_decide_eq_true y
      have : ((ix (m_borders w) 0).length) = (ix (m_borders_by w) 0).length := rfl
      omega
  · intro z
    rw [Bool.and_eq_true] at z
    have hnil : m_borders_by w = [] := of_decide_eq_true z.1
    have hu := borders_nil.mp hnil
    have h1 : m_is_whole_turns w = true := (whole_prim G.ne).mpr (unb_prim hu)
    have h2 : m_mean_wait many w = m__law_power many w.length := by rw [G.wait, unb_wait G.ne hu, lpow_of, Int.toNat_natCast]
    have h3 : m_least_period w = (w.length : Int) := by
      show ix (m_periods_by w) 0 = _
      unfold m_periods_by
      rw [hnil]
      exact ix_zero
    rw [h1, h2, h3] at z
    simp at z
end
end Lw

set_option maxRecDepth 100000
set_option maxHeartbeats 4000000
namespace Lw
open PySem PySem.Spec PyProof.Rows L2 VL
local macro_rules | `(tactic| trivial) => `(tactic| first | assumption | (and_intros <;> first | assumption | omega) | exact ty_I | exact ty_W | exact ty_B | exact ty_N | exact ty_T | exact ty_L | omega | (refine sl_le ?_; first | omega | (rw [rngI_length]; omega) | exact Nat.le_trans (cutL_len _ _ _) (by omega) | exact Nat.le_trans (Nat.add_le_add_right (cutL_len _ _ _) _) (by simp only [List.length_cons, List.length_nil]; omega)) | exact Or.inr ⟨by omega, by omega⟩ | exact Or.inl ⟨by omega, by omega⟩ | (simp only [mem_rngI] at *; first | omega | exact Or.inr ⟨by omega, by omega⟩) | (simp only [InR, decide_eq_true_eq, Bool.not_eq_true', decide_eq_false_iff_not, mem_rngI, Bool.and_eq_true] at *; omega) | (exfalso; simp_all; done))
section
variable {P : Program} {w : World} {K : PySem.W.Frag} {mg : Str → Option Value} {base : Heap}
theorem ok__law_take (T : Tx K mg) : Fn P w K mg base 1 "_law_take" ["well", "many"] (spDraw K) := by
  have hN : (["well", "many", "figure", "by"] : List Str).Nodup := by decide +kernel
  refine Fn.mkP (Nm := ["well", "many", "figure", "by"]) T.d__law_take ⟨rfl, rfl, rfl, hN, rfl, by decide +kernel, by decide +kernel⟩ (fun _ _ _ _ _ _ us hl => match us, hl with | [_, _], _ => rfl) (fun a => rfl) fun m hp O0 H0 q f cdv A0 outer s H E hr => ?_
  have h0 : 0 < m := hp.1
  have h1 : m < 1073741824 := hp.2
  show WB _ _ [.own q Pot, .dat (iD m), .un, .un] _ _
  refine wb_open 0 rfl fun d hd => ?_
  obtain ⟨a, b, c, rfl⟩ := hd
  refine wb_if (et_c (ev_ixO 0 rfl ev_int rfl) ev_int cp_gt) (fun z => ?_) (fun z => wb_nil ?_)
  · refine wb_cons (ws_asg ((ev_divmod T.b_divmod (ev_ixO 0 rfl ev_int rfl) (ev_var 1) ⟨h0, h1⟩).we (wg_tup (wgs_cons (wg_subO 0 rfl (ev_int.we ⟨0, 0, rfl, rfl, wgs_cons (wg_name 2 (wgs_nil ?_) hN) ⟩)) ) rfl)))
    exact wb_ret (ev_var 2) ⟨still0 fun d e => ⟨_, _, _, e⟩, mod_dr h0⟩
  · refine wb_setO 0 rfl (ev_addI (ev_ixO 0 rfl ev_int rfl) ev_int) ev_int rfl ?_
    refine wb_let 3 (ev_addI (ev_mod (ev_int1 T.b_int (ev_ixO 0 rfl ev_int rfl)) ev_int (by omega)) ev_int) ?_ hN
    refine wb_setO 0 rfl (ev_mod (ev_int1 T.b_int (ev_addI (ev_addI (ev_mulI (ev_ixO 0 rfl ev_int rfl) (ev_var 3) (Or.inr ⟨by omega, by omega⟩)) (ev_mulI ev_int (ev_ixO 0 rfl ev_int rfl) (Or.inl ⟨by omega, by omega⟩))) ev_int)) ev_int (by omega)) ev_int rfl ?_
    exact wb_ret (ev_mod (ev_int1 T.b_int (ev_fdiv (ev_ixO 0 rfl ev_int rfl) ev_int ⟨by omega, by omega⟩)) (ev_var 1) h0) ⟨still0 fun d e => ⟨_, _, _, e⟩, mod_dr h0⟩
/-- a word drawn -/
def WordOf (many most : Int) (d : D) : Prop := ∃ w : W, d = wD w ∧ (w.length : Int) ≤ most ∧ ∀ c ∈ w, 97 ≤ c ∧ (c : Int) < 97 + many
theorem abc_mem {c : Nat} {i : Int} {many : Int} (h : 0 ≤ i) (h2 : i < many) (hm : many ≤ 3) : InR ([97, 98, 99] : W) i := ⟨by simp; omega, by simp; omega⟩
theorem abc_ix {i many : Int} (h : 0 ≤ i) (h2 : i < many) (hm : many ≤ 3) : 97 ≤ ix ([97, 98, 99] : W) i ∧ ((ix ([97, 98, 99] : W) i : Nat) : Int) < 97 + many := by
  have : i = 0 ∨ i = 1 ∨ i = 2 := by omega
  rcases this with rfl | rfl | rfl
  · exact ⟨by decide, by show (97 : Int) < _; omega⟩
  · exact ⟨by decide, by show (98 : Int) < _; omega⟩
  · exact ⟨by decide, by show (99 : Int) < _; omega⟩
theorem we_abc {X : Cx} {Γ : Gm} {ρ : List Sl} {b : Expr} {R : D → Prop} {n : Nat} {p pos : Pos} {z : Str} {m : Int} (hm : m ≤ 3) (hb : WE X Γ ρ b fun d => ∃ i, d = iD i ∧ 0 ≤ i ∧ i < m) (k : ∀ c : Nat, 97 ≤ c ∧ (c : Int) < 97 + m → R (eC c)) (hz : z = SX.S [97, 98, 99] := by decide +kernel) (hK : Γ.K = X.K := by rfl) (hs : PlainIx b := by intro _ _; rfl) :
    WE X Γ ρ (.Subscript (.Constant (.str z) n p) b pos) R :=
  we_ix ix_seq ((ev_str [97, 98, 99] hz).we (we_imp hb fun d ⟨i, e, h0, h1⟩ => by
    rw [e, hK]
    exact od_ixW (by decide) (atI_ix (abc_mem (c := 0) h0 h1 hm)) (k _ (abc_ix h0 h1 hm)))) hs
theorem mem_cutL {α : Type} {l : List α} {a b : Option Int} {x : α} (h : x ∈ cutL l a b) : x ∈ l := by
  unfold cutL at h
  exact List.mem_of_mem_drop (List.mem_of_mem_take h)
theorem cutL_toI {α : Type} (l : List α) {i : Int} (h : 0 ≤ i) : cutL l none (some i) = l.take i.toNat := by
  have := cutL_to l i.toNat
  rw [Int.toNat_of_nonneg h] at this
  exact this
theorem mem_repW {w : W} {n : Int} {c : Nat} (h : c ∈ repW w n) : c ∈ w := by
  unfold repW at h
  obtain ⟨l, hl, hc⟩ := List.mem_flatten.mp h
  rw [(List.mem_replicate.mp hl).2] at hc
  exact hc
theorem ok__law_word (T : Tx K mg) : Fn P w K mg base 2 "_law_word" ["well", "many", "most"] (spP K Pot (fun x : Int × Int => [iD x.1, iD x.2]) (fun x => (1 ≤ x.1 ∧ x.1 ≤ 3) ∧ 0 ≤ x.2 ∧ x.2 ≤ 1000) fun x d => WordOf x.1 x.2 d) := by
  have hN : (["well", "many", "most", "way", "share", "stem", "found", "k"] : List Str).Nodup := by decide +kernel
  refine Fn.mkP (Nm := ["well", "many", "most", "way", "share", "stem", "found", "k"]) T.d__law_word ⟨rfl, rfl, rfl, hN, rfl, by decide +kernel, by decide +kernel⟩ (fun _ _ _ _ _ _ us hl => match us, hl with | [_, _, _], _ => rfl) (fun a => rfl) fun a hp O0 H0 q f cdv A0 outer s H E hr => ?_
  obtain ⟨many, most⟩ := a
  obtain ⟨⟨m1, m2⟩, t1, t2⟩ := (show (1 ≤ many ∧ many ≤ 3) ∧ 0 ≤ most ∧ most ≤ 1000 from hp)
  show WB _ _ [.own q Pot, .dat (iD many), .dat (iD most), .un, .un, .un, .un, .un] _ _
  refine wb_parTW 3 4 (wa_cons (we_draw (ok__law_take T) 0 rfl hr ev_int ⟨by omega, by omega⟩ fun way w1 w2 => wa_cons (we_addI (ev_int.we ⟨1, rfl, we_draw (ok__law_take T) 0 rfl hr (ev_var 1) ⟨by omega, by omega⟩ fun sh s1 s2 => ⟨sh, rfl, wa_nil ⟨_, _, rfl, ?_⟩⟩⟩)))) hN
  have lett : ∀ (l : List Nat), (∀ c ∈ l, ∃ _a : Int, 97 ≤ c ∧ (c : Int) < 97 + many) → ∀ c ∈ l, 97 ≤ c ∧ (c : Int) < 97 + many := fun l h c hc => by
    obtain ⟨_, h⟩ := h c hc
    exact h
  refine wb_if (et_c (ev_var 3) ev_int cp_lt) (fun z => ?_) (fun z => wb_nil ?_)
  · refine wb_retC' (we_joinC (we_new (wn_lc (α := Int) (g := eI) (Y := fun _ o => ∃ c : Nat, o = some (eC c) ∧ 97 ≤ c ∧ (c : Int) < 97 + many) [("k", 7)] (wi_range1 T.b_range (wa_cons (we_draw (ok__law_take T) 0 rfl hr (ev_addI (ev_var 2) ev_int) ⟨by omega, by omega⟩ fun n n1 n2 => wa_nil ⟨n, rfl, by omega, by omega, ⟨rngI 0 n, ?_, ?_, fun x hx s H C cl fp => wg_name 7 (fun s H C cl fp => wts_nil ⟨(fun z => nomatch z), fun _ s H C cl fp => ?_⟩) hN (by decide), fun ys b => ?_⟩⟩))) hN)))
    · show rngD 0 n.toNat = (rngI 0 n).map eI
      unfold rngD rngI
      rw [List.map_map, show n - 0 = n from by omega]
      rfl
    · rw [rngI_length]; exact sl_le (by omega)
    · refine we_abc m2 (we_drawW (ok__law_take T) 0 rfl hr ((ev_if (et_c (ev_var 3) ev_int cp_eqI) (fun _ => ev_var 1) (fun _ => ev_var 4)).we ⟨if decide (way = 0) then many else 1 + sh, by split <;> rfl, by split <;> omega, fun i i1 i2 => ⟨i, rfl, i1, by split at i2 <;> omega⟩⟩)) fun c hc => ⟨c, rfl, hc⟩
    · obtain ⟨l, e, hl, hc⟩ := built_signs b
      rw [rngI_length] at hl
      exact ⟨l, by rw [e], sl_le (by omega), still0 fun d e => e, l, rfl, by omega, fun c h => (hc c h).elim fun _ z => z⟩
  · refine wb_letW 5 (we_joinC (we_new (wn_lc (α := Int) (g := eI) (Y := fun _ o => ∃ c : Nat, o = some (eC c) ∧ 97 ≤ c ∧ (c : Int) < 97 + many) [("k", 7)] (wi_range1 T.b_range (wa_cons (we_addI (ev_int.we ⟨1, rfl, we_draw (ok__law_take T) 0 rfl hr ev_int ⟨by omega, by omega⟩ fun n n1 n2 => ⟨n, rfl, wa_nil ⟨1 + n, rfl, by omega, by omega, ⟨rngI 0 (1 + n), ?_, ?_, fun x hx s H C cl fp => wg_name 7 (fun s H C cl fp => wts_nil ⟨(fun z => nomatch z), fun _ s H C cl fp => ?_⟩) hN (by decide), fun ys b => ?_⟩⟩⟩⟩)))) hN))) hN
    · show rngD 0 (1 + n).toNat = (rngI 0 (1 + n)).map eI
      unfold rngD rngI
      rw [List.map_map, show 1 + n - 0 = 1 + n from by omega]
      rfl
    · rw [rngI_length]; exact sl_le (by omega)
    · exact we_abc m2 (we_draw (ok__law_take T) 0 rfl hr (ev_var 1) ⟨by omega, by omega⟩ fun i i1 i2 => ⟨i, rfl, i1, i2⟩) fun c hc => ⟨c, rfl, hc⟩
    · obtain ⟨l, e, hl, hc⟩ := built_signs b
      rw [rngI_length] at hl
      refine ⟨l, by rw [e], sl_le (by omega), ?_⟩
      have hc' : ∀ c ∈ l, 97 ≤ c ∧ (c : Int) < 97 + many := fun c h => (hc c h).elim fun _ z => z
      refine wb_letW 6 (we_slWd (ev_mulW (ev_var 5) ev_int ⟨by omega, by omega⟩ (sl_le (by show l.length * 12 ≤ _; omega))) (we_draw (ok__law_take T) 0 rfl hr (ev_addI (ev_var 2) ev_int) ⟨by omega, by omega⟩ fun i i1 i2 => ⟨i, rfl, ?_⟩) (sl_le (by rw [repW_length]; show 12 * l.length ≤ _; omega))) hN
      have hf : (cutL (repW l 12) none (some i)).length ≤ most := by
        rw [cutL_toI _ i1, List.length_take]
        omega
      have hfc : ∀ c ∈ cutL (repW l 12) none (some i), 97 ≤ c ∧ (c : Int) < 97 + many := fun c h => hc' c (mem_repW (mem_cutL h))
      generalize cutL (repW l 12) none (some i) = fo at hf hfc
      refine wb_retC' (we_ifExp (wt_w (ww_or (wt_cmp op_eq (we_draw (ok__law_take T) 0 rfl hr ev_int ⟨by omega, by omega⟩ fun i2 j1 j2 => ev_int.we (od_eqI ⟨_, rfl, fun _ => ?_, fun _ => ww_or1 ((et_c (ev_lenW T.b_len (ev_var 6) (sl_le (by omega))) ev_int cp_eqI).wt ?_)⟩))))))
      · exact ⟨fun _ => (ev_var 6).we ⟨still0 fun d e => e, fo, rfl, hf, hfc⟩, fun z => nomatch z⟩
      · refine ⟨fun _ => (ev_var 6).we ⟨still0 fun d e => e, fo, rfl, hf, hfc⟩, fun z => we_addW ((ev_slW (ev_var 6) eo_none (eo_some (ev_neg ev_int)) (sl_le (by omega))).we ⟨_, rfl, we_abc m2 (we_draw (ok__law_take T) 0 rfl hr (ev_var 1) ⟨by omega, by omega⟩ fun i i1 i2 => ⟨i, rfl, i1, i2⟩) fun c hc => ⟨[c], rfl, ?_, still0 fun d e => e, _, rfl, ?_, ?_⟩⟩)⟩
        · have := cutL_len fo none (some (-1))
          exact sl_le (by show _ + 1 ≤ _; omega)
        · have hne : fo ≠ [] := fun e => by rw [e] at z; simp at z
          have : (cutL fo none (some (-1))).length + 1 ≤ fo.length := by
            have hp := List.length_pos_iff.mpr hne
            unfold cutL
            rw [List.length_take, List.length_drop]
            have : HT.sIx fo.length fo.length (some (-1)) = fo.length - 1 := by
              unfold HT.sIx; simp; omega
            rw [this]
            omega
          rw [List.length_append]
          show ((_ + 1 : Nat) : Int) ≤ _
          omega
        · intro c' h'
          rcases List.mem_append.mp h' with z | z
          · exact hfc c' (mem_cutL z)
          · rw [List.mem_singleton.mp z]; exact hc
end
end Lw

set_option maxRecDepth 100000
set_option maxHeartbeats 4000000
namespace Lw
open PySem PySem.Spec PyProof.Rows L2 VL
local macro_rules | `(tactic| trivial) => `(tactic| first | assumption | (and_intros <;> first | assumption | omega) | exact ty_I | exact ty_W | exact ty_B | exact ty_N | exact ty_T | exact ty_L | omega | (refine sl_le ?_; first | omega | (rw [rngI_length]; omega) | exact Nat.le_trans (cutL_len _ _ _) (by omega) | exact Nat.le_trans (Nat.add_le_add_right (cutL_len _ _ _) _) (by simp only [List.length_cons, List.length_nil]; omega)) | exact Or.inr ⟨by omega, by omega⟩ | exact Or.inl ⟨by omega, by omega⟩ | (simp only [mem_rngI] at *; first | omega | exact Or.inr ⟨by omega, by omega⟩) | (simp only [InR, decide_eq_true_eq, Bool.not_eq_true', decide_eq_false_iff_not, mem_rngI, Bool.and_eq_true] at *; omega) | (exfalso; simp_all; done))
section
variable {P : Program} {w : World} {K : PySem.W.Frag} {mg : Str → Option Value} {base : Heap}
theorem let_of {many : Int} (hm : 1 ≤ many ∧ many ≤ 3) {c : Nat} (h : c ∈ m_letters_of many) : 97 ≤ c ∧ (c : Int) < 97 + many := by
  have : many = 1 ∨ many = 2 ∨ many = 3 := by omega
  rcases this with rfl | rfl | rfl
  · have h : c ∈ [97] := h
    simp at h; omega
  · have h : c ∈ [97, 98] := h
    simp at h; omega
  · have h : c ∈ [97, 98, 99] := h
    simp at h; omega
theorem lw_eq (many size : Int) : m__law_words many size = awF (m_letters_of many) (rngI 0 size) [[]] := awI_eq (rngI 0 size) [[]]
theorem words_good {many size : Int} (hm : 1 ≤ many ∧ many ≤ 3) (hs : 1 ≤ size ∧ size ≤ 12) {w : W} (h : w ∈ awF (m_letters_of many) (rngI 0 size) [[]]) : Good many w := by
  obtain ⟨h1, h2⟩ := aw_iff.mp h
  exact ⟨hm, fun e => by rw [e] at h1; simp at h1; omega, by omega, fun c hc => let_of hm (h2 c hc)⟩
theorem lw_good {many size : Int} (hm : 1 ≤ many ∧ many ≤ 3) (hs : 1 ≤ size ∧ size ≤ 12) {w : W} (h : w ∈ m__law_words many size) : Good many w := by
  rw [lw_eq] at h
  exact words_good hm hs h
theorem least_mem {many size : Int} {w : W} (h : w ∈ m_least_words many size) : w ∈ awF (m_letters_of many) (rngI 0 size) [[]] := by
  have h : w ∈ m_least_of_length many size := h
  unfold m_least_of_length at h
  rw [List.map_id'' (fun a => rfl), List.mem_filter] at h
  exact h.1
def cases3 : List (Int × Int) := [(1, 7), (2, 7), (3, 5)]
theorem counted : ∀ p ∈ cases3, ∀ s ∈ rngI 1 (p.2 + 1), (((List.filter (fun (word : W) => (decide ((m_borders word) = ([] : List W)))) (m__law_words p.1 s)).length : Int) = ix (m__law_counts p.1 p.2) s) ∧ (m_least_words p.1 s).all (fun w => decide (m_borders w = []) && decide (m_least_period w = s)) = true ∧ InR (m__law_counts p.1 p.2) s ∧ (m_is_letter_number p.1 = true ∧ m_is_between s 1 7 = true) := by unfold InR; decide +kernel
theorem law_wb (T : Tx K mg) (ns : List Int) (hp : ns.length ≤ 63) (O0 : Own) (H0 : Hp) (f : Addr) (cdv : Value) (A0 : Around) (outer : List Env) (s : Shared) (H : Hp) (E : XK) (hr : Room 7 (A0.deeper (envOfC d_law.qual d_law.scope s.heap.objs.size f cdv))) :
    WB (bodyX P w K mg base ["script", "many", "most", "due", "size", "whole", "turn", "well", "word"] d_law.qual d_law.scope f cdv A0 outer s H E) ⟨K, O0, H0, fun _ => False⟩ (slots ["script", "many", "most", "due", "size", "whole", "turn", "well", "word"] [eL eI ns]) d_law.body (Er (bD true)) := by
  have hN : (["script", "many", "most", "due", "size", "whole", "turn", "well", "word"] : List Str).Nodup := by decide +kernel
  show WB _ _ [.dat ((eL eI) ns), .un, .un, .un, .un, .un, .un, .un, .un] _ (Er (bD true))
  refine wb_forP [.dat ((eL eI) ns), .un, .un, .un, .un, .un, .un, .un, .un] (ei_listT (en := (eP eI eI)) (EvN.ev (evn_lstT (en := (eP eI eI)) (l := [((1 : Int), (7 : Int)), ((2 : Int), (7 : Int)), ((3 : Int), (5 : Int))]) (ea_cons (ev_tup (ea_cons ev_int (ea_cons ev_int ea_nil))) (ea_cons (ev_tup (ea_cons ev_int (ea_cons ev_int ea_nil))) (ea_cons (ev_tup (ea_cons ev_int (ea_cons ev_int ea_nil))) ea_nil)))))) fg_same (fun z hz => EvG.wg (eg_tup (eg_cons (eg_name 1 hN) (eg_cons (eg_name 2 hN) eg_nil))) ?_) ?_
  · have hz : z ∈ cases3 := hz
    have hzb : 1 ≤ z.1 ∧ z.1 ≤ 3 ∧ 1 ≤ z.2 ∧ z.2 ≤ 7 := by
      simp only [cases3, List.mem_cons, List.not_mem_nil, or_false] at hz
      rcases hz with rfl | rfl | rfl <;> decide
    obtain ⟨b1, b2, b3, b4⟩ := hzb
    refine wb_let 3 (ev_call (ok__law_counts T) hr (ea_cons (ev_var 1) (ea_cons (ev_var 2) ea_nil)) ⟨(z.1, z.2), rfl, (by /-0-/ dsimp only; trivial), rfl⟩) ?_ hN
    refine wb_forP [.dat ((eL eI) ns), .dat (iD z.1), .dat (iD z.2), .dat ((eL eI) (m__law_counts z.1 z.2)), .un, .un, .un, .un, .un] (ei_rng2T T.b_range ev_int (ev_addI (ev_var 2) ev_int) (by /-1-/ trivial)) fg_same (fun size hs => EvG.wg (eg_name 4 hN) ?_) (wb_nil (by repeat' first | exact True.intro | exact .inl rfl | exact .inr rfl | refine ⟨?_, ?_⟩))
    obtain ⟨C1, C2, C3, C4, C5⟩ := counted z hz size hs
    have hs := mem_rngI.mp hs
    have hs2 : 1 ≤ size ∧ size ≤ 12 := by omega
    refine wb_let 5 (ev_call (ok__law_words T) hr (ea_cons (ev_var 1) (ea_cons (ev_var 4) ea_nil)) ⟨(z.1, size), rfl, (by /-0-/ dsimp only; trivial), rfl⟩) ?_ hN
    have hw : ∀ w ∈ m__law_words z.1 size, Good z.1 w := fun w h => lw_good ⟨b1, b2⟩ hs2 h
    have hwl : (m__law_words z.1 size).length ≤ sizeLine := by
      rw [lw_eq]
      have := aw_count (letters_len z.1) (size := size) (by omega)
      exact sl_le (by omega)
    refine wb_if (et_c (ev_lenLt (en := eW) T.b_len (EvN.ev (evn_lc1 [("word", 8)] (Lc1.mk (q := fun (word : W) => (decide ((m_borders word) = ([] : List W)))) (g := eW) (f := fun (word : W) => word) (ec := eW) (ei_listT (en := eW) (ev_var 5)) hN (by /-3-/ exact hwl) (fun word h1 _ _ _ _ _ => (eg_name 8 hN)) (fun word h1 _ _ _ _ _ => (wq_one (et_c (ev_call (ok_borders T) hr (ea_cons (ev_var 8) ea_nil) ⟨word, rfl, (by /-0-/ exact (hw _ ‹_›).ok.p1), rfl⟩) (ev_tup ea_nil) (cp_eqT (pyT pyW) hr.units (by /-1-/ exact (hw _ ‹_›).ok.borders) (by /-2-/ exact nogw))))) (fun word h1 h2 _ _ _ _ _ => (ev_var 8)))))) (ev_ixLt (en := eI) (ev_var 3) (ev_var 4) (by /-4-/ exact C3)) cp_neI) (fun y => ?_) fun _ => wb_nil ?_
    · rw [List.map_id'' (fun a => rfl), decide_eq_true C1] at y
      cases y
    have lwl : (m_least_words z.1 size).length ≤ sizeLine := by
      show (m_least_of_length z.1 size).length ≤ _
      unfold m_least_of_length
      rw [List.map_id'' (fun a => rfl)]
      have h1 := List.length_filter_le (fun (word : W) => (m_is_least_by word)) (m_all_words z.1 size)
      have h2 := all_words_len (n := z.1) (size := size) (by omega)
      exact sl_le (by omega)
    refine wb_if (et_not (et_val (ev_allT T.b_all (EvN.ev (evn_lc1M [("word", 8)] (Lc1.mk (q := fun (word' : W) => true) (g := eW) (f := fun (word' : W) => ((decide ((m_borders word') = ([] : List W))) && (decide ((m_least_period word') = size)))) (ec := eB) (ei_tupT (en := eW) (ev_call (ok_least_words T) hr (ea_cons (ev_var 1) (ea_cons (ev_var 4) ea_nil)) ⟨(z.1, size), rfl, (by /-0-/ dsimp only; exact ⟨C4, C5, by omega, by omega⟩), rfl⟩)) hN (by /-5-/ exact lwl) (fun word' h3 _ _ _ _ _ => (eg_name 8 hN)) (fun word' h3 _ _ _ _ _ => wq_nil) (fun word' h3 h4 _ _ _ _ _ => (ev_and (ev_c (ev_call (ok_borders T) hr (ea_cons (ev_var 8) ea_nil) ⟨word', rfl, (by /-1-/ exact (words_good ⟨b1, b2⟩ hs2 (least_mem ‹_›)).ok.p1), rfl⟩) (ev_tup ea_nil) (cp_eqT (pyT pyW) hr.units (by /-2-/ exact (words_good ⟨b1, b2⟩ hs2 (least_mem ‹_›)).ok.borders) (by /-3-/ exact nogw))) (fun h5 => (ev_one (ev_c (ev_call (ok_least_period T) hr (ea_cons (ev_var 8) ea_nil) ⟨word', rfl, (by /-4-/ exact (words_good ⟨b1, b2⟩ hs2 (least_mem ‹_›)).pre2), rfl⟩) (ev_var 4) cp_eqI))))))))))) (fun y => ?_) fun _ => wb_nil ?_
    · rw [List.all_map] at y
      have C2 := C2
      rw [show (List.all (m_least_words z.1 size) (id ∘ fun (word : W) => ((decide ((m_borders word) = ([] : List W))) && (decide ((m_least_period word) = size))))) = true from C2] at y
      cases y
    refine wb_if (et_w (ew_and (et_c (ev_var 4) ev_int cp_lt) (fun h8 => (ew_and1 (et_not (et_val (ev_allT T.b_all (EvN.ev (evn_lc1M [("word", 8)] (Lc1.mk (q := fun (word'' : W) => true) (g := eW) (f := fun (word'' : W) => (m__law_asked z.1 word'')) (ec := eB) (ei_listT (en := eW) (ev_var 5)) hN (by /-1-/ exact hwl) (fun word'' h6 _ _ _ _ _ => (eg_name 8 hN)) (fun word'' h6 _ _ _ _ _ => wq_nil) (fun word'' h6 h7 _ _ _ _ _ => (ev_call (ok__law_asked T) hr (ea_cons (ev_var 1) (ea_cons (ev_var 8) ea_nil)) ⟨(z.1, word''), rfl, (by /-0-/ dsimp only; exact hw _ ‹_›), rfl⟩)))))))))))) (fun y => ?_) fun _ => wb_nil (wb_nil (by repeat' first | exact True.intro | exact .inl rfl | exact .inr rfl | refine ⟨?_, ?_⟩))
    rw [Bool.and_eq_true, List.all_map] at y
    have : (List.all (m__law_words z.1 size) (id ∘ fun (word : W) => m__law_asked z.1 word)) = true := List.all_eq_true.mpr fun w h => asked_true (hw w h)
    have y2 := y.2
    rw [show (List.all (m__law_words z.1 size) (id ∘ fun (word : W) => m__law_asked z.1 word)) = true from this] at y2
    cases y2
  refine wb_forP [.dat ((eL eI) ns), .un, .un, .un, .un, .un, .un, .un, .un] (ei_rng1T T.b_range (ev_max2 T.b_max ev_int (ev_min2 T.b_min (ev_lenLt (en := eI) T.b_len (ev_var 0)) ev_int)) (by /-0-/ trivial)) fg_same (fun turn ht => EvG.wg (eg_name 6 hN) ?_) (wb_retE ev_bl)
  have ht := mem_rngI.mp ht
  refine wb_own 7 (evn_call (ok__law_well T) hr (ea_cons (ev_var 0) (ea_cons (ev_var 6) ea_nil)) ⟨(ns, turn), rfl, (by /-1-/ trivial), rfl⟩) (fun q hq => ?_) hN
  refine wb_hide 7 rfl (Pt := Pot) (fun d e => ⟨_, _, _, e⟩) ?_
  refine wb_forP [.dat ((eL eI) ns), .un, .un, .un, .un, .un, .dat (iD turn), .own q Pot, .un] (ei_listT (en := eI) (EvN.ev (evn_lstT (en := eI) (l := [(1 : Int), (2 : Int), (3 : Int)]) (ea_cons ev_int (ea_cons ev_int (ea_cons ev_int ea_nil)))))) fg_same (fun many hm => EvG.wg (eg_name 1 hN) ?_) (wb_nil (by repeat' first | exact True.intro | exact .inl rfl | exact .inr rfl | refine ⟨?_, ?_⟩))
  have hm : 1 ≤ many ∧ many ≤ 3 := by
    simp only [List.mem_cons, List.not_mem_nil, or_false] at hm
    omega
  refine wb_letW 8 (we_callP (ok__law_word T) 7 rfl hr (wa_cons ((ev_var 1).we (wa_cons (ev_int.we (wa_nil ⟨(many, 12), rfl, ⟨hm, (by decide : (0 : Int) ≤ 12), (by decide : (12 : Int) ≤ 1000)⟩, fun d hd => ?_⟩)))))) hN
  obtain ⟨word, rfl, hl, hc⟩ := hd
  have hg : ∀ z : (!decide (word = [])) = true, Good many word := fun z => ⟨hm, by simpa using z, by show word.length ≤ 12; have : (word.length : Int) ≤ 12 := hl; omega, hc⟩
  refine wb_if (et_w (ew_and (et_c (ev_var 8) (ev_str ([] : W)) cp_neW) (fun h9 => (ew_and1 (et_not (et_val (ev_call (ok__law_asked T) hr (ea_cons (ev_var 1) (ea_cons (ev_var 8) ea_nil)) ⟨(many, word), rfl, (by /-0-/ dsimp only; exact hg ‹_›), rfl⟩))))))) (fun z => ?_) fun _ => wb_nil (wb_nil (by repeat' first | exact True.intro | exact .inl rfl | exact .inr rfl | refine ⟨?_, ?_⟩))
  rw [Bool.and_eq_true] at z
  have z2 := z.2
  rw [show m__law_asked many word = true from asked_true (hg z.1)] at z2
  cases z2
/-! ### the head -/
abbrev spLaw (K : PySem.W.Frag) : Sp := spF K (fun ns : List Int => [eL eI ns]) (fun ns => ns.length ≤ 63) fun _ d => d = bD true
theorem facts {f : Addr} {h : Heap} (X : K.In h) (G : h.Ns mainGlobals mg) (hfa : mg ("law" : Str) = some (.ref f)) (c : He.SaysD fa fn K) :
    ∃ fd : FuncData, (∀ (s : Shared) (v : Value), BindsTo s fd ⟨[v], []⟩ [("script", v)]) ∧ ∀ base : Heap, K.In base → base.Ns mainGlobals mg → FnOk P w K mg base CX0 8 f fd ["script"] (spLaw K) := by
  have T := tx_of X G c
  obtain ⟨f2, fd, F, hm⟩ := T.d_law
  have hm : mg ("law" : Str) = some (.ref f2) := hm
  rw [hfa] at hm
  cases hm
  have b := FunD.bindsA (ps := ["script"]) F fun _ _ _ _ _ _ us hl => match us, hl with | [_], _ => rfl
  exact ⟨fd, fun s v => b s [v] rfl, fun base _ _ => fn_F (N := ["script", "many", "most", "due", "size", "whole", "turn", "well", "word"]) F ⟨rfl, rfl, rfl, by decide +kernel, rfl, by decide +kernel, by decide +kernel⟩ (fun _ => rfl) fun ns hp O0 H0 cdv A outer s H E hr => law_wb T ns hp O0 H0 _ cdv A outer s H E hr⟩
end
end Lw

set_option maxRecDepth 100000
set_option maxHeartbeats 0
open PySem PySem.W PySem.Calls PyProof.Rows
theorem PySem.Challenge.cw_leastwords_k69_whole_words_without_borde_holds : PySem.Challenge.rw_leastwords_k69_whole_words_without_borde.Holds := by
  w_on; o_law
  refine HandSHeadRun.head_any (r := OpenLaw.row PySem.Challenge.rw_leastwords_k69_whole_words_without_borde) (q := view (OpenLaw.row PySem.Challenge.rw_leastwords_k69_whole_words_without_borde).prog [68]) (H := Lw.hk) (ob := Lw.ob) (M := 6000) (loose := Lw.loose) (d := HandSHeadRun.topDef (OpenLaw.row PySem.Challenge.rw_leastwords_k69_whole_words_without_borde).prog 68) (kwd := []) Lw.ob_eq
    (by kernel_rfl) (fun s => by kernel_rfl) Lw.run (by kernel_rfl) (by kernel_rfl) (by kernel_rfl) (by rfl) (by first | assumption | decide +kernel) (by decide +kernel) ⟨rfl, rfl, rfl, rfl, rfl, by decide +kernel⟩ ?hw ?hc
  case hw => w_witness2
  case hc =>
    refine L2.walk_ofE (l := PySem.Challenge.rw_leastwords_k69_whole_words_without_borde) (n := 63) (k := 8) (x := "script") (CX := L2.CX0) rfl (by decide) (by kernel_rfl) ⟨rfl, by decide, by decide⟩ ?F (fun _ _ _ _ z => z)
    intro w mg fa h Y G hmg0
    obtain ⟨K, KX, c⟩ := Y
    have hmg : mg ("law" : PySem.Str) = some (.ref fa) := by
      have e : (HandSHeadRun.topDef (OpenLaw.row PySem.Challenge.rw_leastwords_k69_whole_words_without_borde).prog 68).name = ("law" : PySem.Str) := by kernel_rfl
      rw [← e]
      exact hmg0
    obtain ⟨fd, hb, hF⟩ := Lw.facts (P := (PySem.Challenge.rw_leastwords_k69_whole_words_without_borde).prog) (w := w) KX G hmg c
    exact ⟨K, fd, Lw.spLaw K, KX, hb, fun H a ns hl _ hS => ⟨fun _ => False, ns, fun _ z => z.elim, VL.rep_script hS, hl, fun v H' d _ r e => by subst e; exact VL.rep_v.mp r⟩, hF⟩

