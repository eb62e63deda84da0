import PyProof.Rows.All
import PySem.Challenge.RW_sheafhall_k17_parts_of_keys
import Wide.All
import OpenK.AllK
import Wide.FinOn
import HandS.ForMost
import HandS.IsInst
import HandS.Wide
import HandS.Steps
import HandS.Defaults
import HandS.Comp
import HandS.Style
import HandS.Replace
import KE.KStateDown
import Lean
import HandS.Ends
import HandS.More
import HandS.Words
import HandS.WordsExc
import HandS.Head0
import HandS.Head1
import HandS.Head2
import HandS.HeadEnd
import HandS.HeadHook1
import HandS.HeadHook2
set_option Elab.async false
set_option linter.all false
set_option maxRecDepth 100000
set_option maxHeartbeats 0
/-! EvA: deep values, shapes (who owns what), how they stand in the abstract heap, steps of the state. -/
namespace Ev
open PySem PySem.Spec PyProof.Rows L2

/-- a value, whole -/
inductive D where
  | non | bl (b : Bool) | int (i : Int) | str (x : Str)
  | tup (xs : List D) | lst (xs : List D) | dct (kvs : List (D × D))
  deriving Inhabited

/-- what of a value is one's own: nothing (shared, never changed from now on), a locked list, a list of one's own, a dict of one's own -/
inductive Sh where
  | sh | frz | tp | lst (s : Sh) | dct (s : Sh)
  deriving DecidableEq, Inhabited

abbrev Fg := PySem.W.Frag
abbrev Env0D := List (Option D)

theorem sqT_mono {K : Fg} {G G' : Hp} (e : Same G G') {a : Addr} {xs : List V} (h : SqT K G a xs) : SqT K G' a xs := by
  rcases h with (h | ⟨o, h⟩) | h
  · exact .inl (.inl (e _ _ h))
  · exact .inl (.inr ⟨o, e _ _ h⟩)
  · exact .inr h

mutual
inductive Rep (K : Fg) (G : Hp) : D → V → Prop
  | non : Rep K G .non .non
  | bl (b : Bool) : Rep K G (.bl b) (.bl b)
  | int (i : Int) : Rep K G (.int i) (.int i)
  | str (x : Str) : Rep K G (.str x) (.str x)
  | tup {a : Addr} {ds : List D} {vs : List V} : SqT K G a vs → RepL K G ds vs → Rep K G (.tup ds) (.ref a)
  | lst {a : Addr} {ds : List D} {vs : List V} : G a = some (.lst vs) → RepL K G ds vs → Rep K G (.lst ds) (.ref a)
inductive RepL (K : Fg) (G : Hp) : List D → List V → Prop
  | nil : RepL K G [] []
  | cons {d : D} {ds : List D} {v : V} {vs : List V} : Rep K G d v → RepL K G ds vs → RepL K G (d :: ds) (v :: vs)
end

mutual
theorem Rep.mono {K : Fg} {G G' : Hp} (e : Same G G') : ∀ {d : D} {v : V}, Rep K G d v → Rep K G' d v
  | _, _, .non => .non
  | _, _, .bl b => .bl b
  | _, _, .int i => .int i
  | _, _, .str x => .str x
  | _, _, .tup h r => .tup (sqT_mono e h) (RepL.mono e r)
  | _, _, .lst h r => .lst (e _ _ h) (RepL.mono e r)
theorem RepL.mono {K : Fg} {G G' : Hp} (e : Same G G') : ∀ {ds : List D} {vs : List V}, RepL K G ds vs → RepL K G' ds vs
  | _, _, .nil => .nil
  | _, _, .cons h r => .cons (Rep.mono e h) (RepL.mono e r)
end
theorem RepL.length {K : Fg} {G : Hp} : ∀ {ds : List D} {vs : List V}, RepL K G ds vs → ds.length = vs.length
  | _, _, .nil => rfl
  | _, _, .cons _ r => by simp [RepL.length r]
theorem RepL.get {K : Fg} {G : Hp} : ∀ {ds : List D} {vs : List V} {i : Nat} {d : D}, RepL K G ds vs → ds[i]? = some d → ∃ v, vs[i]? = some v ∧ Rep K G d v
  | _, _, _, _, .nil, e => by simp at e
  | _, _, 0, _, .cons h _, e => by simp at e; subst e; exact ⟨_, rfl, h⟩
  | _, _, i + 1, _, .cons _ r, e => by
    obtain ⟨v, h1, h2⟩ := RepL.get (i := i) r (by simpa using e)
    exact ⟨v, by simpa using h1, h2⟩
theorem RepL.getV {K : Fg} {G : Hp} : ∀ {ds : List D} {vs : List V} {i : Nat} {v : V}, RepL K G ds vs → vs[i]? = some v → ∃ d, ds[i]? = some d ∧ Rep K G d v
  | _, _, _, _, .nil, e => by simp at e
  | _, _, 0, _, .cons h _, e => by simp at e; subst e; exact ⟨_, rfl, h⟩
  | _, _, i + 1, _, .cons _ r, e => by
    obtain ⟨v, h1, h2⟩ := RepL.getV (i := i) r (by simpa using e)
    exact ⟨v, by simpa using h1, h2⟩
theorem RepL.append {K : Fg} {G : Hp} : ∀ {ds es : List D} {vs us : List V}, RepL K G ds vs → RepL K G es us → RepL K G (ds ++ es) (vs ++ us)
  | _, _, _, _, .nil, r => r
  | _, _, _, _, .cons h r, q => .cons h (RepL.append r q)
theorem RepL.take {K : Fg} {G : Hp} : ∀ {ds : List D} {vs : List V} (n : Nat), RepL K G ds vs → RepL K G (ds.take n) (vs.take n)
  | _, _, 0, _ => .nil
  | _, _, _ + 1, .nil => .nil
  | _, _, n + 1, .cons h r => .cons h (RepL.take n r)
theorem RepL.drop {K : Fg} {G : Hp} : ∀ {ds : List D} {vs : List V} (n : Nat), RepL K G ds vs → RepL K G (ds.drop n) (vs.drop n)
  | _, _, 0, r => r
  | _, _, _ + 1, .nil => .nil
  | _, _, n + 1, .cons _ r => RepL.drop n r
theorem RepL.set {K : Fg} {G : Hp} {d : D} {v : V} (r : Rep K G d v) : ∀ {ds : List D} {vs : List V} (i : Nat), RepL K G ds vs → RepL K G (ds.set i d) (vs.set i v)
  | _, _, _, .nil => .nil
  | _, _, 0, .cons _ t => .cons r t
  | _, _, i + 1, .cons q t => .cons q (RepL.set r i t)

/-! ### owned values: F, the addresses that are one's own -/
mutual
inductive Own (K : Fg) (G H : Hp) : Sh → D → V → List Addr → Prop
  | sh {d : D} {v : V} : Rep K G d v → Own K G H .sh d v []
  | frz {a : Addr} {ds : List D} {vs : List V} : SqL K G a vs → RepL K G ds vs → Own K G H .frz (.lst ds) (.ref a) []
  | tp {a : Addr} {ds : List D} {vs : List V} : H a = some (.tup vs) → RepL K G ds vs → Own K G H .tp (.tup ds) (.ref a) [a]
  | lst {a : Addr} {s : Sh} {ds : List D} {vs : List V} {F : List Addr} : H a = some (.lst vs) → OwnL K G H s ds vs F → a ∉ F → Own K G H (.lst s) (.lst ds) (.ref a) (a :: F)
inductive OwnL (K : Fg) (G H : Hp) : Sh → List D → List V → List Addr → Prop
  | nil {s : Sh} : OwnL K G H s [] [] []
  | cons {s : Sh} {d : D} {ds : List D} {v : V} {vs : List V} {F1 F2 : List Addr} : Own K G H s d v F1 → OwnL K G H s ds vs F2 → (∀ a ∈ F1, a ∉ F2) → OwnL K G H s (d :: ds) (v :: vs) (F1 ++ F2)
end

theorem sqL_mono {K : Fg} {G G' : Hp} (e : Same G G') {a : Addr} {xs : List V} (h : SqL K G a xs) : SqL K G' a xs := e.seq h
mutual
theorem Own.frame {K : Fg} {G G' H H' : Hp} (e : Same G G') : ∀ {s : Sh} {d : D} {v : V} {F : List Addr}, Own K G H s d v F → (∀ a ∈ F, H' a = H a) → Own K G' H' s d v F
  | _, _, _, _, .sh r, _ => .sh (r.mono e)
  | _, _, _, _, .frz h r, _ => .frz (sqL_mono e h) (r.mono e)
  | _, _, _, _, .tp h r, k => .tp ((k _ List.mem_cons_self).trans h) (r.mono e)
  | _, _, _, _, .lst h r n, k => .lst ((k _ List.mem_cons_self).trans h) (OwnL.frame e r fun a ha => k a (List.mem_cons_of_mem _ ha)) n
theorem OwnL.frame {K : Fg} {G G' H H' : Hp} (e : Same G G') : ∀ {s : Sh} {ds : List D} {vs : List V} {F : List Addr}, OwnL K G H s ds vs F → (∀ a ∈ F, H' a = H a) → OwnL K G' H' s ds vs F
  | _, _, _, _, .nil, _ => .nil
  | _, _, _, _, .cons h r n, k => .cons (Own.frame e h fun a ha => k a (List.mem_append_left _ ha)) (OwnL.frame e r fun a ha => k a (List.mem_append_right _ ha)) n
end
mutual
theorem Own.dom {K : Fg} {G H : Hp} : ∀ {s : Sh} {d : D} {v : V} {F : List Addr}, Own K G H s d v F → ∀ a ∈ F, H a ≠ none
  | _, _, _, _, .sh _, a, h => absurd h (by simp)
  | _, _, _, _, .frz _ _, a, h => absurd h (by simp)
  | _, _, _, _, .tp h _, a, ha => by
    rw [List.mem_singleton] at ha
    rw [ha, h]; simp
  | _, _, _, _, .lst h r _, a, ha => by
    rcases List.mem_cons.mp ha with e | ha
    · rw [e, h]; simp
    · exact OwnL.dom r a ha
theorem OwnL.dom {K : Fg} {G H : Hp} : ∀ {s : Sh} {ds : List D} {vs : List V} {F : List Addr}, OwnL K G H s ds vs F → ∀ a ∈ F, H a ≠ none
  | _, _, _, _, .nil, a, h => absurd h (by simp)
  | _, _, _, _, .cons h r _, a, ha => by
    rcases List.mem_append.mp ha with ha | ha
    · exact Own.dom h a ha
    · exact OwnL.dom r a ha
end
def Sh.ok : Sh → Bool
  | .sh => true
  | .frz => false
  | .tp => true
  | .lst s => s.ok
  | .dct s => s.ok
/-! all of an owned value is shared from now on -/
mutual
theorem Own.melt {K : Fg} {G G' H : Hp} (e : Same G G') : ∀ {s : Sh} {d : D} {v : V} {F : List Addr}, Own K G H s d v F → s.ok = true → (∀ a ∈ F, G' a = H a) → Rep K G' d v
  | _, _, _, _, .sh r, _, _ => r.mono e
  | _, _, _, _, .frz _ _, n, _ => by cases n
  | _, _, _, _, .tp h r, _, k => .tup (.inl (.inl ((k _ List.mem_cons_self).trans h))) (r.mono e)
  | _, _, _, _, .lst h r _, n, k => .lst ((k _ List.mem_cons_self).trans h) (OwnL.melt e r n fun a ha => k a (List.mem_cons_of_mem _ ha))
theorem OwnL.melt {K : Fg} {G G' H : Hp} (e : Same G G') : ∀ {s : Sh} {ds : List D} {vs : List V} {F : List Addr}, OwnL K G H s ds vs F → s.ok = true → (∀ a ∈ F, G' a = H a) → RepL K G' ds vs
  | _, _, _, _, .nil, _, _ => .nil
  | _, _, _, _, .cons h r _, n, k => .cons (Own.melt e h n fun a ha => k a (List.mem_append_left _ ha)) (OwnL.melt e r n fun a ha => k a (List.mem_append_right _ ha))
end
theorem OwnL.length {K : Fg} {G H : Hp} : ∀ {s : Sh} {ds : List D} {vs : List V} {F : List Addr}, OwnL K G H s ds vs F → ds.length = vs.length
  | _, _, _, _, .nil => rfl
  | _, _, _, _, .cons _ r _ => by simp [OwnL.length r]
theorem OwnL.sh {K : Fg} {G H : Hp} : ∀ {ds : List D} {vs : List V} {F : List Addr}, OwnL K G H .sh ds vs F → F = [] ∧ RepL K G ds vs
  | _, _, _, .nil => ⟨rfl, .nil⟩
  | _, _, _, .cons (.sh h) r _ => by obtain ⟨e, q⟩ := OwnL.sh r; exact ⟨by simp [e], .cons h q⟩
theorem OwnL.of {K : Fg} {G H : Hp} : ∀ {ds : List D} {vs : List V}, RepL K G ds vs → OwnL K G H .sh ds vs []
  | _, _, .nil => .nil
  | _, _, .cons h r => .cons (F1 := []) (.sh h) (OwnL.of r) (by simp)

/-! ### the state: slots' values, the heap, its shared part, each slot's own addresses -/
structure Wd where
  S : Env0D
  H : Hp
  G : Hp
  F : Nat → List Addr

structure StOk (K : Fg) (shs : List Sh) (σ : L2.St) (w : Wd) : Prop where
  len : w.S.length = shs.length
  lenσ : σ.length = shs.length
  own : ∀ i d s, w.S[i]? = some (some d) → shs[i]? = some s → ∃ v, σ[i]? = some (some v) ∧ Own K w.G w.H s d v (w.F i)
  emp : ∀ i, (∀ d, w.S[i]? ≠ some (some d)) → w.F i = []
  sub : Same w.G w.H
  off : ∀ i a, a ∈ w.F i → w.G a = none
  dis : ∀ i j a, a ∈ w.F i → a ∈ w.F j → i = j

/-- a step: mu, the slots that it may change; R, the addresses of what it hands on -/
structure Stp (mu : Nat → Prop) (w w' : Wd) (R : List Addr) : Prop where
  off : ∀ a ∈ R, w'.G a = none ∧ w'.H a ≠ none ∧ ∀ i, a ∉ w'.F i
  grow : Same w.G w'.G
  keep : ∀ a o, w.H a = some o → (∀ i, a ∉ w.F i) → w'.H a = some o
  new : ∀ a, (w'.G a ≠ none ∨ (∃ i, a ∈ w'.F i) ∨ a ∈ R) → (w.G a ≠ none ∨ (∃ i, a ∈ w.F i) ∨ w.H a = none)
  un : ∀ i, ¬ mu i → w'.S[i]? = w.S[i]? ∧ w'.F i = w.F i ∧ ∀ a ∈ w.F i, w'.H a = w.H a

theorem StOk.dom {K : Fg} {shs : List Sh} {σ : L2.St} {w : Wd} (k : StOk K shs σ w) {i : Nat} {a : Addr} (h : a ∈ w.F i) : w.H a ≠ none := by
  cases q : w.S[i]? with
  | none => rw [k.emp i (by rw [q]; intro d z; cases z)] at h; cases h
  | some o =>
    cases o with
    | none => rw [k.emp i (by rw [q]; intro d z; cases z)] at h; cases h
    | some d =>
      have hl : i < w.S.length := by
        rcases Nat.lt_or_ge i w.S.length with z | z
        · exact z
        · rw [List.getElem?_eq_none z] at q; cases q
      obtain ⟨s, hs⟩ : ∃ s, shs[i]? = some s := ⟨shs[i]'(k.len ▸ hl), List.getElem?_eq_getElem _⟩
      obtain ⟨v, _, o⟩ := k.own i d s q hs
      exact o.dom a h
theorem Stp.refl {mu : Nat → Prop} {w : Wd} : Stp mu w w [] where
  off := fun a h => by cases h
  grow := Same.refl _
  keep := fun a o h _ => h
  new := fun a h => by
    rcases h with h | h | h
    · exact .inl h
    · exact .inr (.inl h)
    · cases h
  un := fun i _ => ⟨rfl, rfl, fun a _ => rfl⟩
theorem Stp.mono {mu mu' : Nat → Prop} {w w' : Wd} {R : List Addr} (t : Stp mu w w' R) (h : ∀ i, mu i → mu' i) : Stp mu' w w' R :=
  ⟨t.off, t.grow, t.keep, t.new, fun i n => t.un i fun z => n (h i z)⟩
/-- what was handed on ahead stands behind a further step -/
theorem Stp.held {mu mu' : Nat → Prop} {w w1 w2 : Wd} {R1 R2 : List Addr} (t : Stp mu w w1 R1) (u : Stp mu' w1 w2 R2) : ∀ a ∈ R1, w2.H a = w1.H a := fun a ha => by
  obtain ⟨h1, h2, h3⟩ := t.off a ha
  cases q : w1.H a with
  | none => exact absurd q h2
  | some o => exact u.keep a o q h3
theorem Stp.apart {mu mu' : Nat → Prop} {w w1 w2 : Wd} {R1 R2 : List Addr} (t : Stp mu w w1 R1) (u : Stp mu' w1 w2 R2) : ∀ a ∈ R1, w2.G a = none ∧ (∀ i, a ∉ w2.F i) ∧ a ∉ R2 := fun a ha => by
  obtain ⟨h1, h2, h3⟩ := t.off a ha
  have no : ¬ (w1.G a ≠ none ∨ (∃ i, a ∈ w1.F i) ∨ w1.H a = none) := by
    rintro (z | ⟨i, z⟩ | z)
    · exact z h1
    · exact h3 i z
    · exact h2 z
  refine ⟨?_, fun i z => no (u.new a (.inr (.inl ⟨i, z⟩))), fun z => no (u.new a (.inr (.inr z)))⟩
  cases q : w2.G a with
  | none => rfl
  | some o => exact absurd (u.new a (.inl (by rw [q]; simp))) no
theorem Stp.trans {K : Fg} {shs : List Sh} {σ σ1 : L2.St} {mu : Nat → Prop} {w w1 w2 : Wd} {R1 R2 : List Addr} (k : StOk K shs σ w) (k1 : StOk K shs σ1 w1) (t : Stp mu w w1 R1) (u : Stp mu w1 w2 R2) : Stp mu w w2 (R1 ++ R2) where
  off := fun a ha => by
    rcases List.mem_append.mp ha with ha | ha
    · obtain ⟨h1, h2, _⟩ := t.apart u a ha
      refine ⟨h1, ?_, h2⟩
      rw [t.held u a ha]
      exact (t.off a ha).2.1
    · exact u.off a ha
  grow := t.grow.trans u.grow
  keep := fun a o h n => by
    refine u.keep a o (t.keep a o h n) fun i z => ?_
    rcases t.new a (.inr (.inl ⟨i, z⟩)) with q | ⟨j, q⟩ | q
    · have g : w.G a = some o := by
        cases r : w.G a with
        | none => exact absurd r q
        | some o' => rw [← k.sub a o' r, h]
      have g1 := t.grow a o g
      rw [k1.off i a z] at g1
      cases g1
    · exact n j q
    · rw [h] at q; cases q
  new := fun a h => by
    have h' : w2.G a ≠ none ∨ (∃ i, a ∈ w2.F i) ∨ a ∈ R2 ∨ a ∈ R1 := by
      rcases h with h | h | h
      · exact .inl h
      · exact .inr (.inl h)
      · rcases List.mem_append.mp h with h | h
        · exact .inr (.inr (.inr h))
        · exact .inr (.inr (.inl h))
    have go : (w1.G a ≠ none ∨ (∃ i, a ∈ w1.F i) ∨ w1.H a = none) → (w.G a ≠ none ∨ (∃ i, a ∈ w.F i) ∨ w.H a = none) := by
      rintro (z | z | z)
      · exact t.new a (.inl z)
      · exact t.new a (.inr (.inl z))
      · cases q : w.H a with
        | none => exact .inr (.inr rfl)
        | some o =>
          by_cases m : ∃ i, a ∈ w.F i
          · exact .inr (.inl m)
          · have := t.keep a o q fun i z' => m ⟨i, z'⟩
            rw [z] at this; cases this
    rcases h' with h | h | h | h
    · exact go (u.new a (.inl h))
    · exact go (u.new a (.inr (.inl h)))
    · exact go (u.new a (.inr (.inr h)))
    · exact t.new a (.inr (.inr h))
  un := fun i n => by
    obtain ⟨a1, a2, a3⟩ := t.un i n
    obtain ⟨b1, b2, b3⟩ := u.un i n
    exact ⟨b1.trans a1, b2.trans a2, fun a ha => (b3 a (by rw [a2]; exact ha)).trans (a3 a ha)⟩
/-- some of what is handed on is shared from now on -/
def meltW (w : Wd) (M : List Addr) : Wd := { w with G := fun a => if a ∈ M then w.H a else w.G a }
theorem meltW_in {w : Wd} {M : List Addr} {a : Addr} (h : a ∈ M) : (meltW w M).G a = w.H a := if_pos h
theorem meltW_out {w : Wd} {M : List Addr} {a : Addr} (h : a ∉ M) : (meltW w M).G a = w.G a := if_neg h
theorem meltW_grow {K : Fg} {shs : List Sh} {σ : L2.St} {w : Wd} {M : List Addr} (k : StOk K shs σ w) : Same w.G (meltW w M).G := fun a o e => by
  by_cases h : a ∈ M
  · rw [meltW_in h]; exact k.sub a o e
  · rw [meltW_out h]; exact e
theorem StOk.melt {K : Fg} {shs : List Sh} {σ : L2.St} {w : Wd} {M : List Addr} (k : StOk K shs σ w) (hM : ∀ a ∈ M, ∀ i, a ∉ w.F i) : StOk K shs σ (meltW w M) where
  len := k.len
  lenσ := k.lenσ
  own := fun i d s h1 h2 => by
    obtain ⟨v, e, o⟩ := k.own i d s h1 h2
    exact ⟨v, e, o.frame (meltW_grow k) fun _ _ => rfl⟩
  emp := k.emp
  sub := fun a o e => by
    by_cases h : a ∈ M
    · rw [meltW_in h] at e; exact e
    · rw [meltW_out h] at e; exact k.sub a o e
  off := fun i a h => by rw [meltW_out fun z => hM a z i h]; exact k.off i a h
  dis := k.dis
theorem Stp.melt {K : Fg} {shs : List Sh} {σ : L2.St} {mu : Nat → Prop} {w w' : Wd} {R R' M : List Addr} (k : StOk K shs σ w') (t : Stp mu w w' R) (hM : ∀ a ∈ M, a ∈ R) (hR : ∀ a ∈ R', a ∈ R ∧ a ∉ M) : Stp mu w (meltW w' M) R' where
  off := fun a ha => by
    obtain ⟨h1, h2⟩ := hR a ha
    obtain ⟨h3, h4, h5⟩ := t.off a h1
    exact ⟨(meltW_out h2).trans h3, h4, h5⟩
  grow := t.grow.trans (meltW_grow k)
  keep := t.keep
  new := fun a h => by
    rcases h with h | h | h
    · by_cases m : a ∈ M
      · exact t.new a (.inr (.inr (hM a m)))
      · rw [meltW_out m] at h; exact t.new a (.inl h)
    · exact t.new a (.inr (.inl h))
    · exact t.new a (.inr (.inr (hR a h).1))
  un := t.un
end Ev

/-! EvB: codes and what they do. -/
namespace Ev
open PySem PySem.Spec PyProof.Rows L2

inductive Res (α : Type) where
  | ok (a : α) (S : Env0D) | exc (c : Str) (f : List (Str × D)) (S : Env0D) | bad

def Res.bind {α β : Type} (r : Res α) (f : α → Env0D → Res β) : Res β := match r with
  | .ok a S => f a S
  | .exc c g S => .exc c g S
  | .bad => .bad

/-- primitives -/
inductive Pr where
  | add | addL | sub | mul | fdiv | mod | pow | neg | not
  | lt | le | gt | ge | eq | ne | isN | notN
  | len | ix | slice (l h : Bool) | rev | int1 | ord | join | sindex | isi (ts : List String)
  deriving DecidableEq
inductive Mu where
  | append | pop | popAt | rev | clear
  deriving DecidableEq
/-- what a target stores -/
inductive Tg where
  | slot (i : Nat) | tup (ts : List Nat)
/-- how it is walked -/
inductive Wk where
  | self | range1 | enum
  deriving DecidableEq
mutual
inductive CE where
  | k (d : D) | var (i : Nat) | mv (i : Nat)
  | prim (p : Pr) (as : CL)
  | lst (as : CL) | tup (as : CL)
  | ife (c a b : CE) | and (a b : CE) | or (a b : CE)
  | call (g : Nat) (as : CL)
  | mut (m : Mu) (i : Nat) (as : CL)
  | lc (own : List Nat) (tg : Tg) (wk : Wk) (it : CL) (conds : CL) (elt : CE)
inductive CL where
  | nil | cons (c : CE) (r : CL) | slot (i : Nat) (r : CL)
end
mutual
inductive CS where
  | asg (tg : Tg) (c : CE) | expr (c : CE) | ret (c : CE) | ite (c : CE) (a b : CB)
  | for_ (tg : Tg) (wk : Wk) (it : CL) (body : CB) | pass | seti (i : Nat) (kc c : CE)
inductive CB where
  | nil | cons (s : CS) (r : CB)
end

/-! ### primitives -/
def mulOk (i j : Int) : Bool := (decide (i.natAbs < 2 ^ 64) || decide (j.natAbs < 2 ^ 64)) || (decide (i.natAbs < 2 ^ 4000) && decide (j.natAbs < 2 ^ 4000))
def sizeOk (n : Nat) : Bool := decide (n ≤ 1000000)
def toPD : D → Option PyData
  | .non => some .none
  | .bl b => some (.bool b)
  | .int i => some (.int i)
  | .str x => some (.str x)
  | .tup xs => (toPDs xs).map .tuple
  | .lst xs => (toPDs xs).map .list
  | .dct _ => none
where toPDs : List D → Option (List PyData)
  | [] => some []
  | d :: ds => match toPD d with
    | some p => (match toPDs ds with
      | some ps => some (p :: ps)
      | none => none)
    | none => none
def tyName : D → Option String
  | .non => some "NoneType"
  | .bl _ => some "bool"
  | .int _ => some "int"
  | .str _ => some "str"
  | .tup _ => some "tuple"
  | .lst _ => some "list"
  | .dct _ => some "dict"
def isiT (n : String) : List String → Option Bool
  | [] => some false
  | t :: ts => (match kitB n t with
    | some true => some true
    | some false => isiT n ts
    | none => none)
def isiD (d : D) (ts : List String) : Option Bool := match tyName d with
  | some n => isiT n ts
  | none => none
def eqD (a b : D) : Option Bool := match toPD a, toPD b with
  | some p, some q => if SeqAt.shaped p && SeqAt.shaped q then some (PyData.eqv p q) else none
  | _, _ => none
def txts : List D → Option (List Str)
  | [] => some []
  | .str x :: r => (match txts r with
    | some xs => some (x :: xs)
    | none => none)
  | _ :: _ => none
def pAdd : List D → Option D
  | [.int i, .int j] => some (.int (i + j))
  | [.str x, .str y] => if sizeOk (x.length + y.length) then some (.str (x ++ y)) else none
  | [.lst xs, .lst ys] => if sizeOk (xs.length + ys.length) then some (.lst (xs ++ ys)) else none
  | _ => none
def pAddL : List D → Option D
  | [.lst xs, .lst ys] => if sizeOk (xs.length + ys.length) then some (.lst (xs ++ ys)) else none
  | _ => none
def pInt2 (f : Int → Int → Option Int) : List D → Option D
  | [.int i, .int j] => (f i j).map .int
  | _ => none
def pCmp (f : Int → Int → Bool) : List D → Option D
  | [.int i, .int j] => some (.bl (f i j))
  | _ => none
def fMul (i j : Int) : Option Int := if mulOk i j then some (i * j) else none
def fDiv (i j : Int) : Option Int := if decide (0 < j) && decide (j.natAbs < 2 ^ 4000) then some (i / j) else none
def fMod (i j : Int) : Option Int := if decide (0 < j) then some (i % j) else none
def fPow (i j : Int) : Option Int := if decide (0 ≤ j) && decide (j ≤ 1000) && decide (i.natAbs < 2 ^ 64) then some (i ^ j.toNat) else none
def pNeg : List D → Option D
  | [.int i] => some (.int (-i))
  | _ => none
def pNot : List D → Option D
  | [.bl b] => some (.bl (!b))
  | _ => none
def pEq : List D → Option D
  | [a, b] => (eqD a b).map .bl
  | _ => none
def pNe : List D → Option D
  | [a, b] => (eqD a b).map fun c => .bl (!c)
  | _ => none
def isNon : D → Bool
  | .non => true
  | _ => false
def pIsN : List D → Option D
  | [a] => some (.bl (isNon a))
  | _ => none
def pNotN : List D → Option D
  | [a] => some (.bl (!isNon a))
  | _ => none
def pLen : List D → Option D
  | [.str x] => if sizeOk x.length then some (.int x.length) else none
  | [.lst xs] => some (.int xs.length)
  | [.tup xs] => some (.int xs.length)
  | _ => none
def pIx : List D → Option D
  | [.lst xs, .int i] => atI xs i
  | [.tup xs, .int i] => atI xs i
  | [.str x, .int i] => if sizeOk x.length then (atI x.cps.toList i).map fun c => .str ⟨#[c]⟩ else none
  | _ => none
def cutD (xs : List D) (lo hi : Option Int) : List D := (xs.drop (HT.sIx xs.length 0 lo)).take (HT.sIx xs.length xs.length hi - HT.sIx xs.length 0 lo)
/-- x[lo:hi], the parts that are written: ints -/
def sliceOf : D → Option Int → Option Int → Option D
  | .lst xs, lo, hi => some (.lst (cutD xs lo hi))
  | .str x, lo, hi => if sizeOk x.length then some (.str (cutS x lo hi)) else none
  | _, _, _ => none
def pSlice : Bool → Bool → List D → Option D
  | false, false, [x] => sliceOf x none none
  | true, false, [x, .int i] => sliceOf x (some i) none
  | false, true, [x, .int j] => sliceOf x none (some j)
  | true, true, [x, .int i, .int j] => sliceOf x (some i) (some j)
  | _, _, _ => none
/-- x[::-1] -/
def pRev : List D → Option D
  | [.str x] => if sizeOk x.length then some (.str ⟨x.cps.toList.reverse.toArray⟩) else none
  | [.lst xs] => some (.lst xs.reverse)
  | _ => none
def pInt1 : List D → Option D
  | [.bl b] => some (.int (if b then 1 else 0))
  | [.int i] => some (.int i)
  | _ => none
def pOrd : List D → Option D
  | [.str x] => (match x.cps.toList with
    | [c] => some (.int c)
    | _ => none)
  | _ => none
def pJoin : List D → Option D
  | [.str a, .lst xs] => (match txts xs with
    | some ys => if sizeOk ((ys.map (·.length)).sum + ys.length * a.length) then some (.str (Txt.join a ys)) else none
    | none => none)
  | _ => none
def pSindex : List D → Option D
  | [.str a, .str b] => (match Builtin.Str.occurrences a b 0 a.length 1 with
    | i :: _ => some (.int (i : Nat))
    | [] => none)
  | _ => none
def pIsi (ts : List String) : List D → Option D
  | [d] => (isiD d ts).map .bl
  | _ => none
def runPr : Pr → List D → Option D
  | .add => pAdd
  | .addL => pAddL
  | .sub => pInt2 fun i j => some (i - j)
  | .mul => pInt2 fMul
  | .fdiv => pInt2 fDiv
  | .mod => pInt2 fMod
  | .pow => pInt2 fPow
  | .neg => pNeg
  | .not => pNot
  | .lt => pCmp fun i j => decide (i < j)
  | .le => pCmp fun i j => decide (i ≤ j)
  | .gt => pCmp fun i j => decide (j < i)
  | .ge => pCmp fun i j => decide (j ≤ i)
  | .eq => pEq
  | .ne => pNe
  | .isN => pIsN
  | .notN => pNotN
  | .len => pLen
  | .ix => pIx
  | .slice l h => pSlice l h
  | .rev => pRev
  | .int1 => pInt1
  | .ord => pOrd
  | .join => pJoin
  | .sindex => pSindex
  | .isi ts => pIsi ts

/-- the items that are walked -/
def iSelf : List D → Option (List D)
  | [.lst xs] => some xs
  | [.tup xs] => some xs
  | [.str x] => some (x.cps.toList.map fun c => .str ⟨#[c]⟩)
  | _ => none
def iRange1 : List D → Option (List D)
  | [.int n] => if decide (n ≤ 1000000) && decide (-(2 ^ 62) ≤ n) then some ((List.range n.toNat).map fun i : Nat => .int i) else none
  | _ => none
def iEnumD : List D → Option (List D)
  | [.lst xs] => some (xs.zipIdx.map fun p => .tup [.int p.2, p.1])
  | _ => none
def itemsOf : Wk → List D → Option (List D)
  | .self => iSelf
  | .range1 => iRange1
  | .enum => iEnumD

def bindL : List Nat → List D → Env0D → Option Env0D
  | [], [], S => some S
  | i :: ts, d :: ds, S => bindL ts ds (S.set i (some d))
  | _, _, _ => none
def bindTg : Tg → D → Env0D → Option Env0D
  | .slot i, d, S => some (S.set i (some d))
  | .tup ts, .tup ds, S => bindL ts ds S
  | .tup _, _, _ => none
def Tg.slots : Tg → List Nat
  | .slot i => [i]
  | .tup ts => ts

/-- a def of the text: what it does with its arguments: the result, the arguments as it leaves them -/
structure Fn where
  run : List D → Option (D × List D)

/-! ### what codes do -/
/-- which argument the slot i is -/
def CL.argOf : CL → Nat → Option Nat
  | .nil, _ => none
  | .cons _ r, i => (r.argOf i).map (· + 1)
  | .slot j r, i => if j = i then some 0 else (r.argOf i).map (· + 1)
/-- the slots as a call leaves them -/
def putBack (as : CL) (S : Env0D) (outs : List D) : Env0D := S.mapIdx fun i x => match as.argOf i with
  | some k => outs[k]?
  | none => x
def mAppend : List D → List D → Option (D × List D)
  | xs, [d] => if sizeOk (xs.length + 1) then some (.non, xs ++ [d]) else none
  | _, _ => none
def mPop : List D → List D → Option (D × List D)
  | xs, [] => (match xs[xs.length - 1]? with
    | some d => some (d, xs.dropLast)
    | none => none)
  | _, _ => none
def mPopAt : List D → List D → Option (D × List D)
  | xs, [.int i] => if !sizeOk xs.length then none else (match ixN xs.length i with
    | some k => (match xs[k]? with
      | some d => some (d, xs.eraseIdx k)
      | none => none)
    | none => none)
  | _, _ => none
def mRev : List D → List D → Option (D × List D)
  | xs, [] => some (.non, xs.reverse)
  | _, _ => none
def mClear : List D → List D → Option (D × List D)
  | _, [] => some (.non, [])
  | _, _ => none
/-- a list's method: its result, the list behind it -/
def runMu : Mu → List D → List D → Option (D × List D)
  | .append => mAppend
  | .pop => mPop
  | .popAt => mPopAt
  | .rev => mRev
  | .clear => mClear
/-- a loop over items: f, what one turn does; it goes on with none, ends with some r -/
def walk {ρ : Type} (f : D → Env0D → Res (Option ρ)) : List D → Env0D → Res (Option ρ)
  | [], S => .ok none S
  | d :: ds, S => (f d S).bind fun r S1 => match r with
    | none => walk f ds S1
    | some x => .ok (some x) S1
/-- .. that collects -/
def gather (f : D → Env0D → Res (Option D)) : List D → List D → Env0D → Res (List D)
  | [], acc, S => .ok acc S
  | d :: ds, acc, S => (f d S).bind fun r S1 => match r with
    | none => gather f ds acc S1
    | some x => if sizeOk (acc.length + 1) then gather f ds (acc ++ [x]) S1 else .bad
def wipeD (S : Env0D) : List Nat → Env0D
  | [] => S
  | i :: r => (wipeD S r).set i none
def restore (S0 S : Env0D) : List Nat → Env0D
  | [] => S
  | i :: r => (restore S0 S r).set i (S0[i]?.getD none)
section
variable (Γ : List Fn)
mutual
def CE.run : CE → Env0D → Res D
  | .k d, S => .ok d S
  | .var i, S => (match S[i]? with
    | some (some d) => .ok d S
    | _ => .bad)
  | .mv i, S => (match S[i]? with
    | some (some d) => .ok d (S.set i none)
    | _ => .bad)
  | .prim p as, S => (as.run S).bind fun ds S1 => (match runPr p ds with
    | some d => .ok d S1
    | none => .bad)
  | .lst as, S => (as.run S).bind fun ds S1 => if sizeOk ds.length then .ok (.lst ds) S1 else .bad
  | .tup as, S => (as.run S).bind fun ds S1 => if sizeOk ds.length then .ok (.tup ds) S1 else .bad
  | .ife c a b, S => (c.run S).bind fun d S1 => (match d with
    | .bl true => a.run S1
    | .bl false => b.run S1
    | _ => .bad)
  | .and a b, S => (a.run S).bind fun d S1 => (match d with
    | .bl true => b.run S1
    | .bl false => .ok (.bl false) S1
    | _ => .bad)
  | .or a b, S => (a.run S).bind fun d S1 => (match d with
    | .bl false => b.run S1
    | .bl true => .ok (.bl true) S1
    | _ => .bad)
  | .call g as, S => (as.run S).bind fun ds S1 => (match Γ[g]? with
    | some f => (match f.run ds with
      | some (d, outs) => .ok d (putBack as S1 outs)
      | none => .bad)
    | none => .bad)
  | .mut m i as, S => (match S[i]? with
    | some (some (.lst _)) => (as.run S).bind fun ds S1 => (match S1[i]? with
      | some (some (.lst xs)) => (match runMu m xs ds with
        | some (d, ys) => .ok d (S1.set i (some (.lst ys)))
        | none => .bad)
      | _ => .bad)
    | _ => .bad)
  | .lc own tg wk it conds elt, S => (it.run S).bind fun ds S1 => (match itemsOf wk ds with
    | some xs => (gather (fun x S2 => (match bindTg tg x (wipeD S2 own) with
        | some S3 => (conds.all S3).bind fun b S4 => if b then (elt.run S4).bind fun y S5 => .ok (some y) S5 else .ok none S4
        | none => .bad)) xs [] S1).bind fun ys S6 => .ok (.lst ys) (restore S1 S6 own)
    | none => .bad)
def CL.run : CL → Env0D → Res (List D)
  | .nil, S => .ok [] S
  | .cons c r, S => (c.run S).bind fun d S1 => (r.run S1).bind fun ds S2 => .ok (d :: ds) S2
  | .slot i r, S => (match S[i]? with
    | some (some d) => (r.run S).bind fun ds S2 => .ok (d :: ds) S2
    | _ => .bad)
/-- all of some tests -/
def CL.all : CL → Env0D → Res Bool
  | .nil, S => .ok true S
  | .cons c r, S => (c.run S).bind fun d S1 => (match d with
    | .bl true => r.all S1
    | .bl false => .ok false S1
    | _ => .bad)
  | .slot _ _, _ => .bad
end
mutual
def CS.run : CS → Env0D → Res (Option D)
  | .asg tg c, S => (c.run Γ S).bind fun d S1 => (match bindTg tg d S1 with
    | some S2 => .ok none S2
    | none => .bad)
  | .expr c, S => (c.run Γ S).bind fun _ S1 => .ok none S1
  | .ret c, S => (c.run Γ S).bind fun d S1 => .ok (some d) S1
  | .ite c a b, S => (c.run Γ S).bind fun d S1 => (match d with
    | .bl true => a.run S1
    | .bl false => b.run S1
    | _ => .bad)
  | .for_ tg wk it body, S => (it.run Γ S).bind fun ds S1 => (match itemsOf wk ds with
    | some xs => walk (fun x S2 => (match bindTg tg x S2 with
        | some S3 => body.run S3
        | none => .bad)) xs S1
    | none => .bad)
  | .pass, S => .ok none S
  | .seti i kc c, S => (c.run Γ S).bind fun d S1 => (match S1[i]? with
    | some (some (.lst _)) => (kc.run Γ S1).bind fun k S2 => (match S2[i]? with
      | some (some (.lst xs)) => (match k with
        | .int kk => (match ixN xs.length kk with
          | some j => .ok none (S2.set i (some (.lst (xs.set j d))))
          | none => .bad)
        | _ => .bad)
      | _ => .bad)
    | _ => .bad)
def CB.run : CB → Env0D → Res (Option D)
  | .nil, S => .ok none S
  | .cons s r, S => (s.run S).bind fun x S1 => (match x with
    | none => r.run S1
    | some d => .ok (some d) S1)
end
end
end Ev

/-! EvC: readings of codes; arguments; primitives. -/
namespace Ev
open PySem PySem.Spec PyProof.Rows L2

/-! ### which slots a code may change -/
def CL.slots : CL → List Nat
  | .nil => []
  | .cons _ r => r.slots
  | .slot i r => i :: r.slots
mutual
def CE.mu : CE → List Nat
  | .k _ => []
  | .var _ => []
  | .mv i => [i]
  | .prim _ as => as.mu
  | .lst as => as.mu
  | .tup as => as.mu
  | .ife c a b => c.mu ++ (a.mu ++ b.mu)
  | .and a b => a.mu ++ b.mu
  | .or a b => a.mu ++ b.mu
  | .call _ as => as.mu ++ as.slots
  | .mut _ i as => i :: as.mu
  | .lc own _ _ it conds elt => own ++ (it.mu ++ (conds.mu ++ elt.mu))
def CL.mu : CL → List Nat
  | .nil => []
  | .cons c r => c.mu ++ r.mu
  | .slot _ r => r.mu
end
mutual
def CS.mu : CS → List Nat
  | .asg tg c => tg.slots ++ c.mu
  | .expr c => c.mu
  | .ret c => c.mu
  | .ite c a b => c.mu ++ (a.mu ++ b.mu)
  | .for_ tg _ it body => it.mu ++ (tg.slots ++ body.mu)
  | .pass => []
  | .seti i kc c => i :: (c.mu ++ kc.mu)
def CB.mu : CB → List Nat
  | .nil => []
  | .cons s r => s.mu ++ r.mu
end
/-! the slots that a statement stores to -/
mutual
def CS.sg : CS → List Nat
  | .asg tg _ => tg.slots
  | .expr _ => []
  | .ret _ => []
  | .ite _ a b => a.sg ++ b.sg
  | .for_ tg _ _ body => tg.slots ++ body.sg
  | .pass => []
  | .seti _ _ _ => []
def CB.sg : CB → List Nat
  | .nil => []
  | .cons s r => s.sg ++ r.sg
end
/-- a slot that is read is not changed by what comes behind it -/
def CL.wf : CL → Bool
  | .nil => true
  | .cons _ r => r.wf
  | .slot i r => !(r.mu.contains i) && r.wf

section
variable (K : Fg) (Γ : List Fn) (shs : List Sh)
def rdE (c : CE) (s : Sh) : TE := fun σ H Q => ∃ (w : Wd) (d : D) (S' : Env0D), w.H = H ∧ StOk K shs σ w ∧ c.run Γ w.S = .ok d S' ∧
  ∀ (w' : Wd) (v : V) (R : List Addr), w'.S = S' → StOk K shs σ w' → Stp (fun i => i ∈ c.mu) w w' R → Own K w'.G w'.H s d v R → Q v w'.H
def tArgs : CL → TA
  | .nil => tNil
  | .cons c r => tCons (rdE K Γ shs c .sh) (tArgs r)
  | .slot i r => tCons (tVar i) (tArgs r)
/-- what arguments are: shared ones, slots -/
inductive ArgOk (σ : L2.St) (w : Wd) : CL → List D → List V → Prop
  | nil : ArgOk σ w .nil [] []
  | cons {c : CE} {r : CL} {d : D} {ds : List D} {v : V} {vs : List V} : Rep K w.G d v → ArgOk σ w r ds vs → ArgOk σ w (.cons c r) (d :: ds) (v :: vs)
  | slot {i : Nat} {r : CL} {d : D} {ds : List D} {v : V} {vs : List V} : w.S[i]? = some (some d) → σ[i]? = some (some v) → ArgOk σ w r ds vs → ArgOk σ w (.slot i r) (d :: ds) (v :: vs)
end
section
variable {K : Fg} {Γ : List Fn} {shs : List Sh}
theorem Own.nilR {G H : Hp} {d : D} {v : V} {R : List Addr} (h : Own K G H .sh d v R) : R = [] ∧ Rep K G d v := by
  cases h with
  | sh h => exact ⟨rfl, h⟩
theorem Res.bind_ok {α β : Type} {r : Res α} {f : α → Env0D → Res β} {b : β} {S' : Env0D} (h : r.bind f = .ok b S') : ∃ a S, r = .ok a S ∧ f a S = .ok b S' := by
  cases r with
  | ok a S => exact ⟨a, S, rfl, h⟩
  | exc c g S => cases h
  | bad => cases h
theorem rdE_mono {c : CE} {s : Sh} {σ : L2.St} {H : Hp} {Q Q' : VK} (h : rdE K Γ shs c s σ H Q) (i : ∀ v H, Q v H → Q' v H) : rdE K Γ shs c s σ H Q' := by
  obtain ⟨w, d, S', e, k, r, h⟩ := h
  exact ⟨w, d, S', e, k, r, fun w' v R e' k' t o => i _ _ (h w' v R e' k' t o)⟩
/-- what is known of a value by its kind -/
def Scal (d : D) (v : V) : Prop := (∀ x, d = .str x → v = .str x) ∧ (∀ i, d = .int i → v = .int i) ∧ (∀ b, d = .bl b → v = .bl b)
theorem Rep.scal {G : Hp} {d : D} {v : V} (h : Rep K G d v) : Scal d v := by
  cases h <;> refine ⟨fun _ e => ?_, fun _ e => ?_, fun _ e => ?_⟩ <;> cases e <;> rfl
theorem Own.scal {G H : Hp} {s : Sh} {d : D} {v : V} {R : List Addr} (h : Own K G H s d v R) : Scal d v := by
  cases h with
  | sh h => exact h.scal
  | frz _ _ => refine ⟨fun _ e => ?_, fun _ e => ?_, fun _ e => ?_⟩ <;> cases e
  | tp _ _ => refine ⟨fun _ e => ?_, fun _ e => ?_, fun _ e => ?_⟩ <;> cases e
  | lst _ _ _ => refine ⟨fun _ e => ?_, fun _ e => ?_, fun _ e => ?_⟩ <;> cases e
/-- the arguments' reading, the values known -/
def tArgsR (K : Fg) (Γ : List Fn) (shs : List Sh) : CL → List D → (List V → Hp → Prop) → L2.St → Hp → Prop
  | .nil, _, Q, _, H => Q [] H
  | .cons c r, d :: ds, Q, σ, H => rdE K Γ shs c .sh σ H fun v H1 => Scal d v ∧ tArgsR K Γ shs r ds (fun vs H2 => Q (v :: vs) H2) σ H1
  | .slot i r, d :: ds, Q, σ, H => ∃ v, σ[i]? = some (some v) ∧ Scal d v ∧ tArgsR K Γ shs r ds (fun vs H2 => Q (v :: vs) H2) σ H
  | _, [], _, _, _ => False
theorem args_okR {σ : L2.St} : ∀ (as : CL) {w : Wd} {ds : List D} {S' : Env0D} {Q : List V → Hp → Prop}, as.wf = true → StOk K shs σ w → as.run Γ w.S = .ok ds S' →
    (∀ (w' : Wd) (vs : List V), w'.S = S' → StOk K shs σ w' → Stp (fun i => i ∈ as.mu) w w' [] → ArgOk K σ w' as ds vs → Q vs w'.H) → tArgsR K Γ shs as ds Q σ w.H
  | .nil, w, ds, S', Q, _, k, e, h => by
    unfold CL.run at e
    cases e
    exact h w [] rfl k .refl .nil
  | .cons c r, w, ds, S', Q, wf, k, e, h => by
    unfold CL.run at e
    obtain ⟨d, S1, e1, e⟩ := Res.bind_ok e
    obtain ⟨ds', S2, e2, e⟩ := Res.bind_ok e
    cases e
    refine ⟨w, d, S1, rfl, k, e1, fun w1 v R hs k1 t o => ⟨o.scal, ?_⟩⟩
    obtain ⟨rfl, rp⟩ := o.nilR
    subst hs
    refine args_okR r (by unfold CL.wf at wf; exact wf) k1 e2 fun w2 vs hs2 k2 t2 a2 => ?_
    refine h w2 (v :: vs) hs2 k2 ?_ (.cons (rp.mono t2.grow) a2)
    exact Stp.trans (R1 := []) k k1 (t.mono fun i hi => by unfold CL.mu; exact List.mem_append_left _ hi) (t2.mono fun i hi => by unfold CL.mu; exact List.mem_append_right _ hi)
  | .slot i r, w, ds, S', Q, wf, k, e, h => by
    unfold CL.run at e
    split at e
    · rename_i d ed
      obtain ⟨ds', S2, e2, e⟩ := Res.bind_ok e
      cases e
      unfold CL.wf at wf
      simp only [Bool.and_eq_true, Bool.not_eq_true', List.contains_eq_mem, decide_eq_false_iff_not] at wf
      have hl : i < shs.length := by
        have : i < w.S.length := by
          rcases Nat.lt_or_ge i w.S.length with z | z
          · exact z
          · rw [List.getElem?_eq_none z] at ed; cases ed
        rw [← k.len]; exact this
      obtain ⟨v, hv, o⟩ := k.own i d _ ed (List.getElem?_eq_getElem hl)
      refine ⟨v, hv, o.scal, ?_⟩
      refine args_okR r wf.2 k e2 fun w2 vs hs2 k2 t2 a2 => ?_
      refine h w2 (v :: vs) hs2 k2 (t2.mono fun j hj => by unfold CL.mu; exact hj) (.slot ?_ hv a2)
      rw [(t2.un i wf.1).1]; exact ed
    · cases e
theorem tArgsR_drop {σ : L2.St} : ∀ {as : CL} {ds : List D} {H : Hp} {Q : List V → Hp → Prop}, tArgsR K Γ shs as ds Q σ H → tArgs K Γ shs as σ H Q
  | .nil, _, _, _, h => by unfold tArgsR at h; exact h
  | .cons c r, [], _, _, h => by unfold tArgsR at h; exact h.elim
  | .slot i r, [], _, _, h => by unfold tArgsR at h; exact h.elim
  | .cons c r, d :: ds, _, _, h => by
    unfold tArgsR at h
    exact rdE_mono h fun v H1 ⟨_, q⟩ => tArgsR_drop q
  | .slot i r, d :: ds, _, _, h => by
    unfold tArgsR at h
    obtain ⟨v, hv, _, q⟩ := h
    exact ⟨v, hv, tArgsR_drop q⟩
theorem args_ok {σ : L2.St} (as : CL) {w : Wd} {ds : List D} {S' : Env0D} {Q : List V → Hp → Prop} (wf : as.wf = true) (k : StOk K shs σ w) (e : as.run Γ w.S = .ok ds S')
    (h : ∀ (w' : Wd) (vs : List V), w'.S = S' → StOk K shs σ w' → Stp (fun i => i ∈ as.mu) w w' [] → ArgOk K σ w' as ds vs → Q vs w'.H) : tArgs K Γ shs as σ w.H Q := tArgsR_drop (args_okR as wf k e h)

/-! ### the heap grows -/
theorem StOk.ext {σ : L2.St} {w : Wd} {H' : Hp} (k : StOk K shs σ w) (e : Same w.H H') : StOk K shs σ { w with H := H' } where
  len := k.len
  lenσ := k.lenσ
  own := fun i d s h1 h2 => by
    obtain ⟨v, hv, o⟩ := k.own i d s h1 h2
    refine ⟨v, hv, o.frame (Same.refl _) fun a ha => ?_⟩
    cases q : w.H a with
    | none => exact absurd q (k.dom ha)
    | some ob => exact e _ _ q
  emp := k.emp
  sub := k.sub.trans e
  off := k.off
  dis := k.dis
theorem Stp.ext {σ : L2.St} {w : Wd} {H' : Hp} {R : List Addr} {mu : Nat → Prop} (k : StOk K shs σ w) (e : Same w.H H') (hR : ∀ a ∈ R, w.H a = none ∧ H' a ≠ none) : Stp mu w { w with H := H' } R where
  off := fun a ha => by
    obtain ⟨h1, h2⟩ := hR a ha
    refine ⟨?_, h2, fun i z => k.dom z h1⟩
    cases q : w.G a with
    | none => rfl
    | some o => rw [k.sub a o q] at h1; cases h1
  grow := Same.refl _
  keep := fun a o h _ => e a o h
  new := fun a h => by
    rcases h with h | h | h
    · exact .inl h
    · exact .inr (.inl h)
    · exact .inr (.inr (hR a h).1)
  un := fun i _ => ⟨rfl, rfl, fun a ha => by
    cases q : w.H a with
    | none => exact absurd q (k.dom ha)
    | some ob => exact e _ _ q⟩
/-- a code's reading, melted -/
theorem rdE_melt {c : CE} {s : Sh} (hs : s.ok = true) {σ : L2.St} {H : Hp} {Q : VK} (h : rdE K Γ shs c .sh σ H Q) : rdE K Γ shs c s σ H Q := by
  obtain ⟨w, d, S', e, k, r, h⟩ := h
  refine ⟨w, d, S', e, k, r, fun w' v R e' k' t o => ?_⟩
  have k2 : StOk K shs σ (meltW w' R) := k'.melt fun a ha i => (t.off a ha).2.2 i
  refine h (meltW w' R) v [] e' k2 (t.melt k' (fun a ha => ha) fun a ha => by cases ha) (.sh (o.melt (meltW_grow k') hs fun a ha => meltW_in ha))

/-! ### primitives by values -/
/-- an operand: shared, or a list of one's own of shared items, or a locked list -/
inductive RepT (fz : Bool) (K : Fg) (G H : Hp) : D → V → Prop
  | rep {d : D} {v : V} : Rep K G d v → RepT fz K G H d v
  | own {a : Addr} {ds : List D} {vs : List V} : H a = some (.lst vs) → RepL K G ds vs → RepT fz K G H (.lst ds) (.ref a)
  | frz {a : Addr} {ds : List D} {vs : List V} : fz = true → SqL K G a vs → RepL K G ds vs → RepT fz K G H (.lst ds) (.ref a)
inductive RepTs (fz : Bool) (K : Fg) (G H : Hp) : List D → List V → Prop
  | nil : RepTs fz K G H [] []
  | cons {d : D} {ds : List D} {v : V} {vs : List V} : RepT fz K G H d v → RepTs fz K G H ds vs → RepTs fz K G H (d :: ds) (v :: vs)
/-- .. that is a list -/
theorem RepT.trk {G H : Hp} {ds : List D} {v : V} (e : Same G H) (h : RepT false K G H (.lst ds) v) : ∃ a vs, v = .ref a ∧ H a = some (.lst vs) ∧ RepL K G ds vs := by
  cases h with
  | rep h => cases h with
    | lst h r => exact ⟨_, _, rfl, e _ _ h, r⟩
  | own h r => exact ⟨_, _, rfl, h, r⟩
  | frz z h r => cases z
theorem RepT.lst {fz : Bool} {G H : Hp} {ds : List D} {v : V} (e : Same G H) (h : RepT fz K G H (.lst ds) v) : ∃ a vs, v = .ref a ∧ SqL K H a vs ∧ RepL K G ds vs := by
  cases h with
  | rep h => cases h with
    | lst h r => exact ⟨_, _, rfl, .inl (.inl (e _ _ h)), r⟩
  | own h r => exact ⟨_, _, rfl, .inl (.inl h), r⟩
  | frz z h r => exact ⟨_, _, rfl, e.seq h, r⟩
theorem RepT.tup {fz : Bool} {G H : Hp} {ds : List D} {v : V} (e : Same G H) (h : RepT fz K G H (.tup ds) v) : ∃ a vs, v = .ref a ∧ SqT K H a vs ∧ RepL K G ds vs := by
  cases h with
  | rep h => cases h with
    | tup h r => exact ⟨_, _, rfl, sqT_mono e h, r⟩
/-- what a primitive may say of its result -/
def PRes (K : Fg) (G H : Hp) (s : Sh) (d : D) (Q : VK) : Prop := ∀ (v : V) (H' : Hp) (R : List Addr) (s' : Sh), (s' = s ∨ (s = .sh ∧ s'.ok = true)) → Same H H' → (∀ a ∈ R, H a = none ∧ H' a ≠ none) → Own K G H' s' d v R → Q v H'
/-- slots that a primitive reads: lists of shared items, locked lists -/
def okSlots (fz : Bool) (shs : List Sh) : CL → Bool
  | .nil => true
  | .cons _ r => okSlots fz shs r
  | .slot i r => (match shs[i]? with
    | some (.lst .sh) => true
    | some .frz => fz
    | some .sh => true
    | _ => false) && okSlots fz shs r
theorem ArgOk.repTs {fz : Bool} {σ : L2.St} {w : Wd} (k : StOk K shs σ w) {as : CL} {ds : List D} {vs : List V} (ok : okSlots fz shs as = true) (h : ArgOk K σ w as ds vs) : RepTs fz K w.G w.H ds vs := by
  induction h with
  | nil => exact .nil
  | cons hd tl ih => exact .cons (.rep hd) (ih (by unfold okSlots at ok; exact ok))
  | @slot i r d ds v vs e hv q ih =>
    unfold okSlots at ok
    obtain ⟨ok1, ok2⟩ := Bool.and_eq_true_iff.mp ok
    refine .cons ?_ (ih ok2)
    cases hs : shs[i]? with
    | none => rw [hs] at ok1; cases ok1
    | some s =>
      obtain ⟨v', hv', o⟩ := k.own i d s e hs
      rw [hv] at hv'
      cases hv'
      generalize w.F i = Fi at o
      cases o with
      | sh h => exact .rep h
      | frz h r => rw [hs] at ok1; exact .frz ok1 h r
      | tp h r => rw [hs] at ok1; cases ok1
      | lst h r n =>
        rename_i s' _ _ _
        rw [hs] at ok1
        cases s' with
        | sh => exact .own h (OwnL.sh r).2
        | frz => cases ok1
        | tp => cases ok1
        | lst _ => cases ok1
        | dct _ => cases ok1
/-- THE PRIMITIVE: what holds by values, over the state -/
theorem prim_ok {fz : Bool} {p : Pr} {s : Sh} {r : List V → Hp → VK → Prop} {σ : L2.St} {w : Wd} {as : CL} {d : D} {S' : Env0D} {Q : VK}
    (hr : ∀ {G H : Hp} {ds : List D} {vs : List V} {d : D} {Q : VK}, Same G H → RepTs fz K G H ds vs → runPr p ds = some d → PRes K G H s d Q → r vs H Q)
    (wf : as.wf = true) (ok : okSlots fz shs as = true) (k : StOk K shs σ w) (e : (CE.prim p as).run Γ w.S = .ok d S')
    (h : ∀ (w' : Wd) (v : V) (R : List Addr), w'.S = S' → StOk K shs σ w' → Stp (fun i => i ∈ (CE.prim p as).mu) w w' R → Own K w'.G w'.H s d v R → Q v w'.H) :
    ∃ ds, runPr p ds = some d ∧ tArgsR K Γ shs as ds (fun vs H' => r vs H' Q) σ w.H := by
  unfold CE.run at e
  obtain ⟨ds, S1, e1, e⟩ := Res.bind_ok e
  split at e
  · rename_i d' ed
    cases e
    refine ⟨ds, ed, args_okR as wf k e1 fun w1 vs hs k1 t1 a1 => ?_⟩
    refine hr k1.sub (a1.repTs k1 ok) ed fun v H' R s' ss sm fr o => ?_
    have t2 : Stp (fun i => i ∈ (CE.prim p as).mu) w { w1 with H := H' } R := (Stp.trans k k1 t1 (Stp.ext (mu := fun i => i ∈ as.mu) k1 sm fr)).mono fun i hi => by unfold CE.mu; exact hi
    have k2 := k1.ext sm
    rcases ss with rfl | ⟨rfl, ok'⟩
    · exact h { w1 with H := H' } v R hs k2 t2 o
    · exact h (meltW { w1 with H := H' } R) v [] hs (k2.melt fun a ha i => (t2.off a ha).2.2 i) (t2.melt k2 (fun a ha => ha) fun a ha => by cases ha) (.sh (o.melt (meltW_grow k2) ok' fun a ha => meltW_in ha))
  · cases e
end
end Ev

/-! EvD: the primitives, one by one. -/
namespace Ev
open PySem PySem.Spec PyProof.Rows L2

def PrimRd (fz : Bool) (K : Fg) (p : Pr) (s : Sh) (r : List V → Hp → VK → Prop) : Prop := ∀ {G H : Hp} {ds : List D} {vs : List V} {d : D} {Q : VK}, Same G H → RepTs fz K G H ds vs → runPr p ds = some d → PRes K G H s d Q → r vs H Q
def r1 (r : V → Hp → VK → Prop) : List V → Hp → VK → Prop := fun vs H Q => match vs with
  | [x] => r x H Q
  | _ => False
def r2 (r : R2) : List V → Hp → VK → Prop := fun vs H Q => match vs with
  | [x, y] => r x y H Q
  | _ => False
section
variable {K : Fg} {fz : Bool}
theorem PRes.scal {G H : Hp} {d : D} {v : V} {Q : VK} (h : PRes K G H .sh d Q) (r : Rep K G d v) : Q v H := h v H [] .sh (.inl rfl) (Same.refl _) (fun a ha => by cases ha) (.sh r)
theorem PRes.new {G H : Hp} {s : Sh} {ds : List D} {vs : List V} {Q : VK} (hs : s = .sh ∨ s = .lst .sh) (e : Same G H) (h : PRes K G H s (.lst ds) Q) (r : RepL K G ds vs) : ∀ p, H p = none → Q (.ref p) (upd H p (.lst vs)) := fun p hp => by
  refine h (.ref p) _ [p] (.lst .sh) ?_ (fun b o eb => ?_) (fun a ha => ?_) (.lst (F := []) upd_same (.of r) (by simp))
  · rcases hs with rfl | rfl
    · exact .inr ⟨rfl, rfl⟩
    · exact .inl rfl
  · rw [upd_ne (ne_of_none eb hp)]; exact eb
  · rw [List.mem_singleton] at ha
    subst ha
    exact ⟨hp, by rw [upd_same]; simp⟩
theorem PRes.newT {G H : Hp} {ds : List D} {vs : List V} {Q : VK} (e : Same G H) (h : PRes K G H .sh (.tup ds) Q) (r : RepL K G ds vs) : ∀ p, H p = none → Q (.ref p) (upd H p (.tup vs)) := fun p hp => by
  refine h (.ref p) _ [p] .tp (.inr ⟨rfl, rfl⟩) (fun b o eb => ?_) (fun a ha => ?_) (.tp upd_same r)
  · rw [upd_ne (ne_of_none eb hp)]; exact eb
  · rw [List.mem_singleton] at ha
    subst ha
    exact ⟨hp, by rw [upd_same]; simp⟩
theorem RepTs.two {G H : Hp} {a b : D} {vs : List V} (h : RepTs fz K G H [a, b] vs) : ∃ x y, vs = [x, y] ∧ RepT fz K G H a x ∧ RepT fz K G H b y := by
  cases h with
  | cons h1 t => cases t with
    | cons h2 t => cases t; exact ⟨_, _, rfl, h1, h2⟩
theorem RepTs.one {G H : Hp} {a : D} {vs : List V} (h : RepTs fz K G H [a] vs) : ∃ x, vs = [x] ∧ RepT fz K G H a x := by
  cases h with
  | cons h1 t => cases t; exact ⟨_, rfl, h1⟩
theorem RepT.int {G H : Hp} {i : Int} {v : V} (h : RepT fz K G H (.int i) v) : v = .int i := by
  cases h with
  | rep h => cases h; rfl
theorem RepT.str {G H : Hp} {x : Str} {v : V} (h : RepT fz K G H (.str x) v) : v = .str x := by
  cases h with
  | rep h => cases h; rfl
theorem RepT.bl {G H : Hp} {b : Bool} {v : V} (h : RepT fz K G H (.bl b) v) : v = .bl b := by
  cases h with
  | rep h => cases h; rfl
def rAdd (K : Fg) : R2 := fun x y H Q => (rI0 (fun i j => .int (i + j)) x y H Q) ∨ (∃ i j, x = .str i ∧ y = .str j ∧ i.length + j.length ≤ sizeLine ∧ Q (.str (i ++ j)) H) ∨ rCat x y H Q
theorem op_addA {X : Cx} : OpR X (binaryOp .Add) (rAdd X.K) := OpR.or op_add (OpR.or op_add_str op_cat)
theorem size_line {n : Nat} (h : sizeOk n = true) : n ≤ sizeLine := by
  unfold sizeOk at h
  have := of_decide_eq_true h
  exact Nat.le_trans this (by decide)
theorem pr_add : PrimRd false K .add .sh (r2 (rAdd K)) := by
  intro G H ds vs d Q e h r q
  replace r : pAdd ds = some d := r
  unfold pAdd at r
  split at r
  · cases r
    obtain ⟨x, y, rfl, h1, h2⟩ := h.two
    cases h1.int; cases h2.int
    exact .inl ⟨_, _, rfl, rfl, q.scal (.int _)⟩
  · split at r
    · rename_i hz
      cases r
      obtain ⟨x, y, rfl, h1, h2⟩ := h.two
      cases h1.str; cases h2.str
      exact .inr (.inl ⟨_, _, rfl, rfl, size_line hz, q.scal (.str _)⟩)
    · cases r
  · split at r
    · rename_i hz
      cases r
      obtain ⟨x, y, rfl, h1, h2⟩ := h.two
      obtain ⟨a, xs, rfl, ea, ra⟩ := h1.trk e
      obtain ⟨b, ys, rfl, eb, rb⟩ := h2.trk e
      refine .inr (.inr ⟨a, b, xs, ys, rfl, rfl, ea, eb, ?_, q.new (.inl rfl) e (ra.append rb)⟩)
      rw [← ra.length, ← rb.length]; exact size_line hz
    · cases r
  · cases r
theorem pr_addL : PrimRd false K .addL (.lst .sh) (r2 (rAdd K)) := by
  intro G H ds vs d Q e h r q
  replace r : pAddL ds = some d := r
  unfold pAddL at r
  split at r
  · split at r
    · rename_i hz
      cases r
      obtain ⟨x, y, rfl, h1, h2⟩ := h.two
      obtain ⟨a, xs, rfl, ea, ra⟩ := h1.trk e
      obtain ⟨b, ys, rfl, eb, rb⟩ := h2.trk e
      refine .inr (.inr ⟨a, b, xs, ys, rfl, rfl, ea, eb, ?_, q.new (.inr rfl) e (ra.append rb)⟩)
      rw [← ra.length, ← rb.length]; exact size_line hz
    · cases r
  · cases r
/-- two ints -/
theorem pr_int2 {p : Pr} {f : Int → Int → Option Int} {C : Int → Int → Prop} {g : Int → Int → Int} (hp : runPr p = pInt2 f) (hf : ∀ i j z, f i j = some z → C i j ∧ z = g i j) :
    PrimRd false K p .sh (r2 (rI C fun i j => .int (g i j))) := by
  intro G H ds vs d Q e h r q
  rw [hp] at r
  unfold pInt2 at r
  split at r
  · rename_i i j
    obtain ⟨z, hz, rfl⟩ := Option.map_eq_some_iff.mp r
    obtain ⟨hc, rfl⟩ := hf _ _ _ hz
    obtain ⟨x, y, rfl, h1, h2⟩ := h.two
    cases h1.int; cases h2.int
    exact ⟨_, _, rfl, rfl, hc, q.scal (.int _)⟩
  · cases r
theorem pr_cmp {p : Pr} {f : Int → Int → Bool} (hp : runPr p = pCmp f) : PrimRd false K p .sh (r2 (rI0 fun i j => .bl (f i j))) := by
  intro G H ds vs d Q e h r q
  rw [hp] at r
  unfold pCmp at r
  split at r
  · cases r
    obtain ⟨x, y, rfl, h1, h2⟩ := h.two
    cases h1.int; cases h2.int
    exact ⟨_, _, rfl, rfl, q.scal (.bl _)⟩
  · cases r
/-- the factors -/
def CMulA (i j : Int) : Prop := CMul i j ∨ CMulW i j
theorem op_mulA {X : Cx} : OpR X (binaryOp .Mult) (rI CMulA fun i j => .int (i * j)) := opI fun _ _ _ _ _ _ _ hc q => mul_int q (hc.elim (·.ok) (·.ok))
theorem mul_ok {i j z : Int} (h : fMul i j = some z) : CMulA i j ∧ z = i * j := by
  unfold fMul at h
  split at h
  · rename_i hm
    cases h
    refine ⟨?_, rfl⟩
    unfold mulOk at hm
    simp only [Bool.or_eq_true, Bool.and_eq_true, decide_eq_true_eq] at hm
    rcases hm with (hm | hm) | hm
    · exact .inl (.inl (by omega))
    · exact .inl (.inr (by omega))
    · exact .inr (wide_mul hm.1 hm.2 (by decide) (by decide) (by decide))
  · cases h
theorem div_ok {i j z : Int} (h : fDiv i j = some z) : CDivW i j ∧ z = i / j := by
  unfold fDiv at h
  split at h
  · rename_i hm
    cases h
    simp only [Bool.and_eq_true, decide_eq_true_eq] at hm
    exact ⟨wide_div hm.1 hm.2 (by decide) (by decide), rfl⟩
  · cases h
theorem mod_ok {i j z : Int} (h : fMod i j = some z) : 0 < j ∧ z = i % j := by
  unfold fMod at h
  split at h
  · rename_i hm
    cases h
    exact ⟨of_decide_eq_true hm, rfl⟩
  · cases h
theorem pow_ok {i j z : Int} (h : fPow i j = some z) : CPow i j ∧ z = i ^ j.toNat := by
  unfold fPow at h
  split at h
  · rename_i hm
    cases h
    simp only [Bool.and_eq_true, decide_eq_true_eq] at hm
    exact ⟨⟨hm.1.1, by omega, hm.2⟩, rfl⟩
  · cases h
/-! ### deep reading -/
mutual
theorem Rep.dp {G : Hp} : ∀ {d : D} {v : V} {p : PyData}, Rep K G d v → toPD d = some p → Dp K G v p
  | _, _, _, .non, e => by cases e; exact .non
  | _, _, _, .bl b, e => by cases e; exact .bl b
  | _, _, _, .int i, e => by cases e; exact .int i
  | _, _, _, .str x, e => by cases e; exact .str x
  | .tup ds, _, p, .tup h r, e => by
    have e' : (toPD.toPDs ds).map PyData.tuple = some p := by rw [← e]; simp [toPD]
    obtain ⟨ps, h1, h2⟩ := Option.map_eq_some_iff.mp e'
    rw [← h2]
    exact .tup h (RepL.dp r h1)
  | .lst ds, _, p, .lst h r, e => by
    have e' : (toPD.toPDs ds).map PyData.list = some p := by rw [← e]; simp [toPD]
    obtain ⟨ps, h1, h2⟩ := Option.map_eq_some_iff.mp e'
    rw [← h2]
    exact .lst (.inl (.inl h)) (RepL.dp r h1)
theorem RepL.dp {G : Hp} : ∀ {ds : List D} {vs : List V} {ps : List PyData}, RepL K G ds vs → toPD.toPDs ds = some ps → DpAll K G vs ps
  | [], _, ps, .nil, e => by
    have : ps = [] := by simpa [toPD.toPDs] using e.symm
    subst this
    exact .nil
  | d :: ds, _, ps, .cons h r, e => by
    unfold toPD.toPDs at e
    split at e
    · rename_i p hp
      split at e
      · rename_i ps' hps
        cases e
        exact .cons (Rep.dp h hp) (RepL.dp r hps)
      · cases e
    · cases e
end
theorem Dp.mono' {G G' : Hp} (e : Same G G') {d : D} {v : V} {p : PyData} (h : Rep K G d v) (hp : toPD d = some p) : Dp K G' v p := (h.mono e).dp hp
theorem RepT.dp {G H : Hp} (e : Same G H) {d : D} {v : V} {p : PyData} (h : RepT fz K G H d v) (hp : toPD d = some p) : Dp K H v p := by
  cases h with
  | rep h => exact (h.mono e).dp hp
  | @own a ds vs h r =>
    have e' : (toPD.toPDs ds).map PyData.list = some p := by rw [← hp]; simp [toPD]
    obtain ⟨ps, h1, h2⟩ := Option.map_eq_some_iff.mp e'
    rw [← h2]
    exact .lst (.inl (.inl h)) ((r.mono e).dp h1)
  | @frz a ds vs z h r =>
    have e' : (toPD.toPDs ds).map PyData.list = some p := by rw [← hp]; simp [toPD]
    obtain ⟨ps, h1, h2⟩ := Option.map_eq_some_iff.mp e'
    rw [← h2]
    exact .lst (e.seq h) ((r.mono e).dp h1)
theorem eqD_ok {a b : D} {c : Bool} (h : eqD a b = some c) : ∃ p q, toPD a = some p ∧ toPD b = some q ∧ SeqAt.shaped p = true ∧ SeqAt.shaped q = true ∧ c = PyData.eqv p q := by
  unfold eqD at h
  split at h
  · rename_i p q h1 h2
    split at h
    · rename_i hs
      cases h
      obtain ⟨s1, s2⟩ := Bool.and_eq_true_iff.mp hs
      exact ⟨p, q, h1, h2, s1, s2, rfl⟩
    · cases h
  · cases h
theorem pr_eq : PrimRd true K .eq .sh (r2 (rEqD K)) := by
  intro G H ds vs d Q e h r q
  replace r : pEq ds = some d := r
  unfold pEq at r
  split at r
  · obtain ⟨c, hc, rfl⟩ := Option.map_eq_some_iff.mp r
    obtain ⟨p, p2, h1, h2, s1, s2, rfl⟩ := eqD_ok hc
    obtain ⟨x, y, rfl, t1, t2⟩ := h.two
    exact ⟨p, p2, t1.dp e h1, t2.dp e h2, s1, s2, q.scal (.bl _)⟩
  · cases r
theorem pr_ne : PrimRd true K .ne .sh (r2 (rNeD K)) := by
  intro G H ds vs d Q e h r q
  replace r : pNe ds = some d := r
  unfold pNe at r
  split at r
  · obtain ⟨c, hc, rfl⟩ := Option.map_eq_some_iff.mp r
    obtain ⟨p, p2, h1, h2, s1, s2, rfl⟩ := eqD_ok hc
    obtain ⟨x, y, rfl, t1, t2⟩ := h.two
    exact ⟨p, p2, t1.dp e h1, t2.dp e h2, s1, s2, q.scal (.bl _)⟩
  · cases r
theorem RepT.isNon {G H : Hp} {d : D} {v : V} (h : RepT fz K G H d v) : decide (v = .non) = isNon d := by
  cases h with
  | rep h => cases h <;> rfl
  | own _ _ => rfl
  | frz _ _ _ => rfl
theorem pr_isN : PrimRd true K .isN .sh (r1 fun x H Q => Q (.bl (decide (x = .non))) H) := by
  intro G H ds vs d Q e h r q
  replace r : pIsN ds = some d := r
  unfold pIsN at r
  split at r
  · cases r
    obtain ⟨x, rfl, t⟩ := h.one
    show Q (.bl (decide (x = .non))) H
    rw [t.isNon]
    exact q.scal (.bl _)
  · cases r
theorem pr_notN : PrimRd true K .notN .sh (r1 fun x H Q => Q (.bl (!decide (x = .non))) H) := by
  intro G H ds vs d Q e h r q
  replace r : pNotN ds = some d := r
  unfold pNotN at r
  split at r
  · cases r
    obtain ⟨x, rfl, t⟩ := h.one
    show Q (.bl (!decide (x = .non))) H
    rw [t.isNon]
    exact q.scal (.bl _)
  · cases r
theorem pr_neg : PrimRd false K .neg .sh (r1 (rU fun i => .int (-i))) := by
  intro G H ds vs d Q e h r q
  replace r : pNeg ds = some d := r
  unfold pNeg at r
  split at r
  · cases r
    obtain ⟨x, rfl, t⟩ := h.one
    cases t.int
    exact ⟨_, rfl, q.scal (.int _)⟩
  · cases r
theorem pr_len : PrimRd true K .len .sh (fun xs H Q => ∃ x n, xs = [x] ∧ LenV K x H n ∧ Q (.int n) H) := by
  intro G H ds vs d Q e h r q
  replace r : pLen ds = some d := r
  unfold pLen at r
  split at r
  · split at r
    · rename_i hz
      cases r
      obtain ⟨x, rfl, t⟩ := h.one
      cases t.str
      exact ⟨_, _, rfl, ⟨size_line hz, rfl⟩, q.scal (.int _)⟩
    · cases r
  · cases r
    obtain ⟨x, rfl, t⟩ := h.one
    obtain ⟨a, xs, rfl, hs, rr⟩ := t.lst e
    exact ⟨_, _, rfl, .inl ⟨_, hs, rr.length⟩, q.scal (.int _)⟩
  · cases r
    obtain ⟨x, rfl, t⟩ := h.one
    obtain ⟨a, xs, rfl, hs, rr⟩ := t.tup e
    exact ⟨_, _, rfl, .inr ⟨_, hs, rr.length⟩, q.scal (.int _)⟩
  · cases r
theorem RepL.atI {G : Hp} {ds : List D} {vs : List V} {i : Int} {d : D} (r : RepL K G ds vs) (h : L2.atI ds i = some d) : ∃ v, L2.atI vs i = some v ∧ Rep K G d v := by
  unfold L2.atI at h ⊢
  rw [← r.length]
  obtain ⟨j, h1, h2⟩ := Option.bind_eq_some_iff.mp h
  obtain ⟨v, h3, h4⟩ := r.get h2
  exact ⟨v, by rw [h1]; exact h3, h4⟩
theorem pr_ix : PrimRd true K .ix .sh (r2 (rIx K)) := by
  intro G H ds vs d Q e h r q
  replace r : pIx ds = some d := r
  unfold pIx at r
  split at r
  · obtain ⟨x, y, rfl, t1, t2⟩ := h.two
    obtain ⟨a, xs, rfl, hs, rr⟩ := t1.lst e
    cases t2.int
    obtain ⟨v, hv, rv⟩ := rr.atI r
    exact .inl ⟨_, _, _, _, rfl, rfl, hs, hv, q.scal rv⟩
  · obtain ⟨x, y, rfl, t1, t2⟩ := h.two
    obtain ⟨a, xs, rfl, hs, rr⟩ := t1.tup e
    cases t2.int
    obtain ⟨v, hv, rv⟩ := rr.atI r
    exact .inr (.inl ⟨_, _, _, _, rfl, rfl, hs, hv, q.scal rv⟩)
  · split at r
    · rename_i hz
      obtain ⟨c, hc, rfl⟩ := Option.map_eq_some_iff.mp r
      obtain ⟨x, y, rfl, t1, t2⟩ := h.two
      cases t1.str; cases t2.int
      exact .inr (.inr ⟨_, _, _, rfl, rfl, size_line hz, hc, q.scal (.str _)⟩)
    · cases r
  · cases r
theorem pr_int1 : PrimRd false K .int1 .sh (fun xs H Q => (∃ i, xs = [.int i] ∧ Q (.int i) H) ∨ ∃ k, xs = [.bl k] ∧ Q (.int (if k then 1 else 0)) H) := by
  intro G H ds vs d Q e h r q
  replace r : pInt1 ds = some d := r
  unfold pInt1 at r
  split at r
  · cases r
    obtain ⟨x, rfl, t⟩ := h.one
    cases t.bl
    exact .inr ⟨_, rfl, q.scal (.int _)⟩
  · cases r
    obtain ⟨x, rfl, t⟩ := h.one
    cases t.int
    exact .inl ⟨_, rfl, q.scal (.int _)⟩
  · cases r
theorem pr_ord : PrimRd false K .ord .sh (fun xs H Q => ∃ x, xs = [.str x] ∧ x.length = 1 ∧ Q (.int (x.cps.getD 0 0 : Nat)) H) := by
  intro G H ds vs d Q e h r q
  replace r : pOrd ds = some d := r
  unfold pOrd at r
  split at r
  · rename_i x
    split at r
    · rename_i c hc
      cases r
      obtain ⟨y, rfl, t⟩ := h.one
      cases t.str
      have e1 : x.cps = #[c] := by
        rw [← Array.toList_inj]
        simpa using hc
      refine ⟨x, rfl, ?_, ?_⟩
      · show x.cps.size = 1
        rw [e1]; rfl
      · rw [e1]
        exact q.scal (.int _)
    · cases r
  · cases r
theorem txts_rep {G : Hp} : ∀ {ds : List D} {vs : List V} {ys : List Str}, RepL K G ds vs → txts ds = some ys → vs = ys.map V.str
  | [], _, ys, .nil, e => by
    have : ys = [] := by simpa [txts] using e.symm
    subst this; rfl
  | d :: ds, _, ys, .cons h r, e => by
    cases d with
    | str x =>
      unfold txts at e
      split at e
      · rename_i xs hx
        cases e
        cases h
        rw [txts_rep r hx]; rfl
      · cases e
    | _ => simp [txts] at e
theorem pr_join : PrimRd true K .join .sh (r2 fun x y H Q => ∃ a p, ∃ ys : List Str, x = .str a ∧ y = .ref p ∧ (SqL K H p (ys.map V.str) ∨ SqT K H p (ys.map V.str)) ∧ (ys.map (·.length)).sum + ys.length * a.length ≤ 16777216 ∧ Q (.str (Txt.join a ys)) H) := by
  intro G H ds vs d Q e h r q
  replace r : pJoin ds = some d := r
  unfold pJoin at r
  split at r
  · split at r
    · rename_i ys hy
      split at r
      · rename_i hz
        cases r
        obtain ⟨x, y, rfl, t1, t2⟩ := h.two
        cases t1.str
        obtain ⟨p, vs, rfl, hs, rr⟩ := t2.lst e
        have ev := txts_rep rr hy
        subst ev
        exact ⟨_, p, ys, rfl, rfl, .inl hs, size_line hz, q.scal (.str _)⟩
      · cases r
    · cases r
  · cases r
theorem pr_sindex : PrimRd false K .sindex .sh (r2 fun x y H Q => ∃ a b i rest, x = .str a ∧ y = .str b ∧ Builtin.Str.occurrences a b 0 a.length 1 = i :: rest ∧ Q (.int (i : Nat)) H) := by
  intro G H ds vs d Q e h r q
  replace r : pSindex ds = some d := r
  unfold pSindex at r
  split at r
  · split at r
    · rename_i i rest ho
      cases r
      obtain ⟨x, y, rfl, t1, t2⟩ := h.two
      cases t1.str; cases t2.str
      exact ⟨_, _, _, _, rfl, rfl, ho, q.scal (.int _)⟩
    · cases r
  · cases r
theorem RepTs.three {G H : Hp} {a b c : D} {vs : List V} (h : RepTs fz K G H [a, b, c] vs) : ∃ x y z, vs = [x, y, z] ∧ RepT fz K G H a x ∧ RepT fz K G H b y ∧ RepT fz K G H c z := by
  cases h with
  | cons h1 t => cases t with
    | cons h2 t => cases t with
      | cons h3 t => cases t; exact ⟨_, _, _, rfl, h1, h2, h3⟩
theorem RepTs.four {G H : Hp} {a b c d : D} {vs : List V} (h : RepTs fz K G H [a, b, c, d] vs) : ∃ x y z t, vs = [x, y, z, t] ∧ RepT fz K G H a x ∧ RepT fz K G H b y ∧ RepT fz K G H c z ∧ RepT fz K G H d t := by
  cases h with
  | cons h1 t => cases t with
    | cons h2 t => cases t with
      | cons h3 t => cases t with
        | cons h4 t => cases t; exact ⟨_, _, _, _, rfl, h1, h2, h3, h4⟩
theorem RepL.cut {G : Hp} {ds : List D} {vs : List V} {lo hi : Option Int} (r : RepL K G ds vs) : RepL K G (cutD ds lo hi) (cutV vs lo hi) := by
  unfold cutD cutV
  rw [← r.length]
  exact (r.drop _).take _
def rSlA (K : Fg) (x : V) (lo hi : Option Int) (H : Hp) (Q : VK) : Prop := rSlL K x lo hi H Q ∨ rSlS x lo hi H Q
def rSl (K : Fg) : Bool → Bool → List V → Hp → VK → Prop
  | false, false, [x], H, Q => rSlA K x none none H Q
  | true, false, [x, l], H, Q => ∃ i, l = .int i ∧ rSlA K x (some i) none H Q
  | false, true, [x, u], H, Q => ∃ j, u = .int j ∧ rSlA K x none (some j) H Q
  | true, true, [x, l, u], H, Q => ∃ i j, l = .int i ∧ u = .int j ∧ rSlA K x (some i) (some j) H Q
  | _, _, _, _, _ => False
theorem slA_ok {G H : Hp} {x : D} {v : V} {lo hi : Option Int} {d : D} {Q : VK} (e : Same G H) (t : RepT fz K G H x v) (r : sliceOf x lo hi = some d) (q : PRes K G H .sh d Q) : rSlA K v lo hi H Q := by
  unfold sliceOf at r
  split at r
  · cases r
    obtain ⟨a, xs, rfl, hs, rr⟩ := t.lst e
    exact .inl ⟨a, xs, rfl, hs, q.new (.inl rfl) e rr.cut⟩
  · split at r
    · rename_i hz
      cases r
      cases t.str
      exact .inr ⟨_, rfl, size_line hz, q.scal (.str _)⟩
    · cases r
  · cases r
theorem pr_slice {l h : Bool} : PrimRd true K (.slice l h) .sh (rSl K l h) := by
  intro G H ds vs d Q e t r q
  replace r : pSlice l h ds = some d := r
  unfold pSlice at r
  split at r
  · obtain ⟨x, rfl, t1⟩ := t.one
    exact slA_ok e t1 r q
  · obtain ⟨x, y, rfl, t1, t2⟩ := t.two
    cases t2.int
    exact ⟨_, rfl, slA_ok e t1 r q⟩
  · obtain ⟨x, y, rfl, t1, t2⟩ := t.two
    cases t2.int
    exact ⟨_, rfl, slA_ok e t1 r q⟩
  · obtain ⟨x, y, z, rfl, t1, t2, t3⟩ := t.three
    cases t2.int; cases t3.int
    exact ⟨_, _, rfl, rfl, slA_ok e t1 r q⟩
  · cases r
def rRev (K : Fg) : V → Hp → VK → Prop := fun x H Q => (∃ a xs, x = .ref a ∧ SqL K H a xs ∧ ∀ p, H p = none → Q (.ref p) (upd H p (.lst xs.reverse))) ∨ ∃ z, x = .str z ∧ z.length ≤ sizeLine ∧ Q (.str ⟨z.cps.toList.reverse.toArray⟩) H
theorem RepL.rev {G : Hp} : ∀ {ds : List D} {vs : List V}, RepL K G ds vs → RepL K G ds.reverse vs.reverse
  | _, _, .nil => .nil
  | _, _, .cons h r => by
    rw [List.reverse_cons, List.reverse_cons]
    exact (RepL.rev r).append (.cons h .nil)
theorem pr_rev : PrimRd true K .rev .sh (r1 (rRev K)) := by
  intro G H ds vs d Q e h r q
  replace r : pRev ds = some d := r
  unfold pRev at r
  split at r
  · split at r
    · rename_i hz
      cases r
      obtain ⟨x, rfl, t1⟩ := h.one
      cases t1.str
      exact .inr ⟨_, rfl, size_line hz, q.scal (.str _)⟩
    · cases r
  · cases r
    obtain ⟨x, rfl, t1⟩ := h.one
    obtain ⟨a, xs, rfl, hs, rr⟩ := t1.lst e
    exact .inl ⟨a, xs, rfl, hs, q.new (.inl rfl) e rr.rev⟩
  · cases r
/-! isinstance -/
theorem RepT.ty {G H : Hp} (e : Same G H) {d : D} {v : V} {n : String} (h : RepT fz K G H d v) (hn : tyName d = some n) : TyX K H v (.type n) := by
  have lst : ∀ {a : Addr} {vs : List V}, SqL K H a vs → TyX K H (.ref a) (.type "list") := fun {a vs} hs => by
    rcases hs with (hs | ⟨o, hs⟩) | ⟨o, its, n, hk, hc, _⟩
    · exact .base (.lst hs)
    · exact .base (.frz hs)
    · exact .kList hk hc
  cases h with
  | rep h =>
    cases h with
    | non => cases hn; exact .base .non
    | bl b => cases hn; exact .base (.bl b)
    | int i => cases hn; exact .base (.int i)
    | str x => cases hn; exact .base (.str x)
    | tup hs r =>
      cases hn
      rcases hs with (hs | ⟨o, hs⟩) | ⟨o, its, n, hk, hc, _⟩
      · exact .base (.tup (e _ _ hs))
      · exact .fTuple (e _ _ hs)
      · exact .kTuple hk hc
    | lst hs r => cases hn; exact .base (.lst (e _ _ hs))
  | own hs r => cases hn; exact .base (.lst hs)
  | frz z hs r => cases hn; exact lst (e.seq hs)
theorem isiT_ok {n : String} : ∀ {ts : List String} {b : Bool}, isiT n ts = some b → PySem.W.kitAny K (.type n) (ts.map Value.type) = some b
  | [], b, h => by
    unfold isiT at h
    cases h
    exact kitAny_nil
  | t :: ts, b, h => by
    unfold isiT at h
    split at h
    · rename_i hk
      cases h
      exact kitAny_cons (kit_ty hk) (fun z => by cases z) fun _ => rfl
    · rename_i hk
      exact kitAny_cons (kit_ty hk) (fun _ => isiT_ok h) fun z => by cases z
    · cases h
theorem isiT_one {n t : String} {b : Bool} (h : isiT n [t] = some b) : PySem.W.kitOne K (.type n) (.type t) = some b := by
  unfold isiT at h
  split at h
  · rename_i hk; cases h; exact kit_ty hk
  · rename_i hk
    unfold isiT at h
    cases h; exact kit_ty hk
  · cases h
theorem pr_isi1 {t : String} : PrimRd true K (.isi [t]) .sh (r1 fun x H Q => rIsi K [x, .ty t] H Q) := by
  intro G H ds vs d Q e h r q
  replace r : pIsi [t] ds = some d := r
  unfold pIsi at r
  split at r
  · obtain ⟨b, hb, rfl⟩ := Option.map_eq_some_iff.mp r
    unfold isiD at hb
    split at hb
    · rename_i n hn
      obtain ⟨x, rfl, t1⟩ := h.one
      exact ⟨_, _, _, _, b, rfl, .ty t, t1.ty e hn, isiT_one hb, q.scal (.bl _)⟩
    · cases hb
  · cases r
theorem clsV_all : ∀ ts : List String, Paired ClsV (ts.map V.ty) (ts.map Value.type)
  | [] => .nil
  | t :: ts => .cons (.ty t) (clsV_all ts)
/-- .. where the tuple of the classes is laid -/
theorem pr_isiT {ts : List String} : PrimRd true K (.isi ts) .sh (r1 fun x H Q => ∀ p, H p = none → rIsiT K [x, .ref p] (upd H p (.tup (ts.map V.ty))) Q) := by
  intro G H ds vs d Q e h r q
  replace r : pIsi ts ds = some d := r
  unfold pIsi at r
  split at r
  · rename_i da
    obtain ⟨b, hb, rfl⟩ := Option.map_eq_some_iff.mp r
    unfold isiD at hb
    split at hb
    · rename_i n hn
      obtain ⟨x, rfl, t1⟩ := h.one
      intro p hp
      have sm : Same H (upd H p (.tup (ts.map V.ty))) := fun b o eb => by rw [upd_ne (ne_of_none eb hp)]; exact eb
      have ty : TyX K (upd H p (.tup (ts.map V.ty))) x (.type n) := by
        have t2 : RepT true K G (upd H p (.tup (ts.map V.ty))) da x := by
          cases t1 with
          | rep h1 => exact .rep h1
          | own h1 r1 => exact .own (sm _ _ h1) r1
          | frz z h1 r1 => exact .frz z h1 r1
        exact t2.ty (e.trans sm) hn
      exact ⟨_, _, _, _, _, b, rfl, upd_same, clsV_all ts, ty, isiT_ok hb, q _ _ [] .sh (.inl rfl) sm (fun a ha => by cases ha) (.sh (.bl _))⟩
    · cases hb
  · cases r
end
end Ev

/-! EvE: expressions: a code's reading is a reading of the expression. -/
namespace Ev
open PySem PySem.Spec PyProof.Rows L2

theorem peI {X : Cx} {e : Expr} {t t' : TE} (h : PE X e t) (i : ∀ σ H Q, t' σ H Q → t σ H Q) : PE X e t' := ⟨fun pins s σ H Q I q => h.run pins s σ H Q I (i σ H Q q)⟩
theorem ptI {X : Cx} {e : Expr} {t t' : TT} (h : PT X e t) (i : ∀ σ H Q, t' σ H Q → t σ H Q) : PT X e t' := ⟨fun pins s σ H Q I q => h.run pins s σ H Q I (i σ H Q q)⟩

def noStar : Expr → Bool
  | .Starred _ _ => false
  | _ => true
theorem starEach_cons {e : Expr} {es : List Expr} {env : Env} (h : noStar e = true) : starEach (e :: es) env = (false, eval e env) :: starEach es env := by
  cases e <;> first | rfl | cases h

/-- arguments and their codes -/
inductive PAg (X : Cx) (Γ : List Fn) (shs : List Sh) : List Expr → CL → Prop
  | nil : PAg X Γ shs [] .nil
  | cons {e : Expr} {es : List Expr} {c : CE} {r : CL} : noStar e = true → PE X e (rdE X.K Γ shs c .sh) → PAg X Γ shs es r → PAg X Γ shs (e :: es) (.cons c r)
  | slot {e : Expr} {es : List Expr} {i : Nat} {r : CL} : noStar e = true → PE X e (tVar i) → PAg X Γ shs es r → PAg X Γ shs (e :: es) (.slot i r)
section
variable {X : Cx} {Γ : List Fn} {shs : List Sh}
theorem PAg.pa {es : List Expr} {as : CL} (h : PAg X Γ shs es as) : PA X es (tArgs X.K Γ shs as) := by
  induction h with
  | nil => exact pa_nil
  | cons n h _ ih => exact pa_cons h ih (starEach_cons n)
  | slot n h _ ih => exact pa_cons h ih (starEach_cons n)
theorem PAg.one {a : Expr} {as : CL} (h : PAg X Γ shs [a] as) : ∃ ta, PE X a ta ∧ tArgs X.K Γ shs as = tCons ta tNil := by
  cases h with
  | cons n h r => cases r; exact ⟨_, h, rfl⟩
  | slot n h r => cases r; exact ⟨_, h, rfl⟩
theorem PAg.two {a b : Expr} {as : CL} (h : PAg X Γ shs [a, b] as) : ∃ ta tb, PE X a ta ∧ PE X b tb ∧ tArgs X.K Γ shs as = tCons ta (tCons tb tNil) := by
  cases h with
  | cons n h r =>
    obtain ⟨tb, h2, e⟩ := r.one
    exact ⟨_, tb, h, h2, by rw [← e]; rfl⟩
  | slot n h r =>
    obtain ⟨tb, h2, e⟩ := r.one
    exact ⟨_, tb, h, h2, by rw [← e]; rfl⟩
theorem PAg.head {a : Expr} {es : List Expr} {as : CL} (h : PAg X Γ shs (a :: es) as) : ∃ ta r, PE X a ta ∧ PAg X Γ shs es r ∧ tArgs X.K Γ shs as = tCons ta (tArgs X.K Γ shs r) := by
  cases h with
  | cons n h r => exact ⟨_, _, h, r, rfl⟩
  | slot n h r => exact ⟨_, _, h, r, rfl⟩
/-- a primitive's reading, from the arguments' -/
theorem prim_rdR {fz : Bool} {p : Pr} {s : Sh} {r : List V → Hp → VK → Prop} {as : CL} {σ : L2.St} {H : Hp} {Q : VK} (hr : PrimRd fz X.K p s r) (wf : as.wf = true) (ok : okSlots fz shs as = true)
    (h : rdE X.K Γ shs (.prim p as) s σ H Q) : ∃ ds d, runPr p ds = some d ∧ tArgsR X.K Γ shs as ds (fun vs H' => r vs H' Q) σ H := by
  obtain ⟨w, d, S', rfl, k, e, h⟩ := h
  obtain ⟨ds, h1, h2⟩ := prim_ok (fun e h r q => hr e h r q) wf ok k e h
  exact ⟨ds, d, h1, h2⟩
theorem prim_rd {fz : Bool} {p : Pr} {s : Sh} {r : List V → Hp → VK → Prop} {as : CL} {σ : L2.St} {H : Hp} {Q : VK} (hr : PrimRd fz X.K p s r) (wf : as.wf = true) (ok : okSlots fz shs as = true)
    (h : rdE X.K Γ shs (.prim p as) s σ H Q) : tArgs X.K Γ shs as σ H fun vs H' => r vs H' Q := by
  obtain ⟨ds, d, _, h2⟩ := prim_rdR hr wf ok h
  exact tArgsR_drop h2
section
variable {fz : Bool} {p : Pr} {s : Sh} {as : CL} {a b : Expr} {pos : Pos}
theorem e_bin {op : Operator} {r : R2} (ho : OpR X (binaryOp op) r) (hr : PrimRd fz X.K p s (r2 r)) (ha : PAg X Γ shs [a, b] as) (wf : as.wf = true) (ok : okSlots fz shs as = true) : PE X (.BinOp a op b pos) (rdE X.K Γ shs (.prim p as) s) := by
  obtain ⟨ta, tb, h1, h2, e⟩ := ha.two
  refine peI (pe_op ho h1 h2) fun σ H Q h => ?_
  have z := prim_rd hr wf ok h
  rw [e] at z
  exact z
theorem e_cmp {op : CmpOp} {r : R2} (ho : OpR X (compareOp op) r) (hr : PrimRd fz X.K p s (r2 r)) (hm : behindInMarks op b = false) (ha : PAg X Γ shs [a, b] as) (wf : as.wf = true) (ok : okSlots fz shs as = true) :
    PE X (.Compare a [op] [b] pos) (rdE X.K Γ shs (.prim p as) s) := by
  obtain ⟨ta, tb, h1, h2, e⟩ := ha.two
  refine peI (pe_cmpR ho h1 h2 hm) fun σ H Q h => ?_
  have z := prim_rd hr wf ok h
  rw [e] at z
  exact z
theorem e_isN {j pos'} (ha : PAg X Γ shs [a] as) (wf : as.wf = true) (ok : okSlots true shs as = true) : PE X (.Compare a [.Is] [.Constant .none j pos'] pos) (rdE X.K Γ shs (.prim .isN as) .sh) := by
  obtain ⟨ta, h1, e⟩ := ha.one
  refine peI (pe_cmp (pc_isN h1) rfl) fun σ H Q h => ?_
  have z := prim_rd pr_isN wf ok h
  rw [e] at z
  exact z
theorem e_notN {j pos'} (ha : PAg X Γ shs [a] as) (wf : as.wf = true) (ok : okSlots true shs as = true) : PE X (.Compare a [.IsNot] [.Constant .none j pos'] pos) (rdE X.K Γ shs (.prim .notN as) .sh) := by
  obtain ⟨ta, h1, e⟩ := ha.one
  refine peI (pe_cmp (pc_notN h1) rfl) fun σ H Q h => ?_
  have z := prim_rd pr_notN wf ok h
  rw [e] at z
  exact z
theorem e_neg (ha : PAg X Γ shs [a] as) (wf : as.wf = true) (ok : okSlots false shs as = true) : PE X (.UnaryOp .USub a pos) (rdE X.K Γ shs (.prim .neg as) .sh) := by
  obtain ⟨ta, h1, e⟩ := ha.one
  refine peI (pe_un un_neg h1) fun σ H Q h => ?_
  have z := prim_rd pr_neg wf ok h
  rw [e] at z
  exact z
theorem PAg.star {e : Expr} {es : List Expr} {as : CL} (h : PAg X Γ shs (e :: es) as) : starEach (e :: es) X.env = (false, eval e X.env) :: starEach es X.env := by
  cases h with
  | cons n _ _ => exact starEach_cons n
  | slot n _ _ => exact starEach_cons n
theorem PAg.noStar {es : List Expr} {as : CL} (h : PAg X Γ shs es as) : (starEach es X.env).any (·.1) = false := by
  induction h with
  | nil => rfl
  | cons n _ _ ih => rw [starEach_cons n, List.any_cons, ih]; rfl
  | slot n _ _ ih => rw [starEach_cons n, List.any_cons, ih]; rfl
theorem backTo_any (pos : Pos) (l : List (Bool × Sem Value)) (h : l.any (·.1) = false) : (backTo pos l).any (·.1) = false := by
  unfold backTo
  rw [List.any_map]
  exact h
theorem PAg.tail {e : Expr} {es : List Expr} {as : CL} (h : PAg X Γ shs (e :: es) as) : ∃ r, PAg X Γ shs es r := by
  cases h with
  | cons _ _ r => exact ⟨_, r⟩
  | slot _ _ r => exact ⟨_, r⟩
/-- a built-in function, a built-in class -/
theorem e_callB {id : String} {x : Str} {r : List V → Hp → VK → Prop} {es : List Expr} {ps : Pos} (hc : CallR X (.builtin id) r) (hr : PrimRd fz X.K p s r) (hg : Gl X x) (hm : X.mg x = none) (hv : bootBuiltins x = some (.builtin id)) (ha : PAg X Γ shs (a :: es) as)
    (wf : as.wf = true) (ok : okSlots fz shs as = true) (hn : x ≠ "__name__" := by decide) (hdb : (x == ("__debug__" : Str)) = false := by decide) : PE X (.Call (.Name x ps) (a :: es) [] pos) (rdE X.K Γ shs (.prim p as) s) := by
  obtain ⟨r', hr'⟩ := ha.tail
  exact peI (pe_callB hc hg hm hv ha.pa hn hdb ha.star (backTo_any _ _ hr'.noStar)) fun σ H Q h => prim_rd hr wf ok h
theorem e_callTy {T : String} {x : Str} {r : List V → Hp → VK → Prop} {es : List Expr} {ps : Pos} (hc : CallR X (.type T) r) (hr : PrimRd fz X.K p s r) (hg : Gl X x) (hm : X.mg x = none) (hv : bootBuiltins x = some (.type T)) (ha : PAg X Γ shs (a :: es) as)
    (wf : as.wf = true) (ok : okSlots fz shs as = true) (hn : x ≠ "__name__" := by decide) (hdb : (x == ("__debug__" : Str)) = false := by decide) : PE X (.Call (.Name x ps) (a :: es) [] pos) (rdE X.K Γ shs (.prim p as) s) := by
  obtain ⟨r', hr'⟩ := ha.tail
  exact peI (pe_callTy hc hg hm hv ha.pa hn hdb ha.star (backTo_any _ _ hr'.noStar)) fun σ H Q h => prim_rd hr wf ok h
/-- a text's method with one argument -/
theorem baseOk {o : Expr} {name : Str} {env : Env} {w : Sem Value} (h : (match o with | .Call (.Name _ _) [] [] _ => false | _ => true) = true) : attributeBase o name env w = w := by
  unfold attributeBase
  split
  · cases h
  · rfl
def plainObj (o : Expr) : Bool := match o with
  | .Call (.Name _ _) [] [] _ => false
  | _ => true
theorem e_m1 {id : String} {name : Str} {apos : Pos} {r : R2} {ca : CE} {rs : CL} (slot : Slot "str" name id) (ty : typeOf (.builtin id) = pure (.type "method_descriptor")) (rule : MtR X id fun x xs H Q => ∃ y, xs = [y] ∧ r x y H Q)
    (hr : PrimRd fz X.K p s (r2 r)) (hd : ∀ ds d, runPr p ds = some d → ∃ x rest, ds = .str x :: rest) (ha : PAg X Γ shs [a, b] (.cons ca rs)) (wf : (CL.cons ca rs).wf = true) (ok : okSlots fz shs (.cons ca rs) = true) (ho : plainObj a = true) (hl : (apos.endLine == pos.line) = true) :
    PE X (.Call (.Attribute a name apos) [b] [] pos) (rdE X.K Γ shs (.prim p (.cons ca rs)) s) := by
  cases ha with
  | cons n1 h1 q =>
    cases q with
    | @cons _ _ cb _ n2 h2 q2 =>
      cases q2
      refine peI (pe_m1 slot ty rule h1 h2 (starEach_cons n2) (baseOk ho) hl) fun σ H Q h => ?_
      obtain ⟨ds, d, e, z⟩ := prim_rdR hr wf ok h
      obtain ⟨x, rest, rfl⟩ := hd _ _ e
      unfold tArgsR at z
      refine rdE_mono z fun v H1 ⟨sc, z2⟩ => ⟨⟨x, sc.1 x rfl⟩, ?_⟩
      cases rest with
      | nil => unfold tArgsR at z2; exact z2.elim
      | cons d2 rest =>
        unfold tArgsR at z2
        exact rdE_mono z2 fun y H2 ⟨_, q⟩ => ⟨y, rfl, q⟩
    | @slot _ _ i _ n2 h2 q2 =>
      cases q2
      refine peI (pe_m1 slot ty rule h1 h2 (starEach_cons n2) (baseOk ho) hl) fun σ H Q h => ?_
      obtain ⟨ds, d, e, z⟩ := prim_rdR hr wf ok h
      obtain ⟨x, rest, rfl⟩ := hd _ _ e
      unfold tArgsR at z
      refine rdE_mono z fun v H1 ⟨sc, z2⟩ => ⟨⟨x, sc.1 x rfl⟩, ?_⟩
      cases rest with
      | nil => unfold tArgsR at z2; exact z2.elim
      | cons d2 rest =>
        unfold tArgsR at z2
        obtain ⟨y, hy, _, q⟩ := z2
        exact ⟨y, hy, y, rfl, q⟩
/-! ### subscripts, slices -/
theorem e_ix (ha : PAg X Γ shs [a, b] as) (wf : as.wf = true) (ok : okSlots true shs as = true) (hb : PlainIx b) : PE X (.Subscript a b pos) (rdE X.K Γ shs (.prim .ix as) .sh) := by
  obtain ⟨ta, tb, h1, h2, e⟩ := ha.two
  refine peI (pe_ix ix_seq h1 h2 hb) fun σ H Q h => ?_
  have z := prim_rd pr_ix wf ok h
  rw [e] at z
  exact z
def notSlice : Expr → Bool
  | .Slice _ _ _ _ => false
  | _ => true
theorem plainIx_of {b : Expr} (h : notSlice b = true) : PlainIx b := by
  intro o i
  cases b <;> first | rfl | cases h
/-! slices: the parts that are written -/
theorem sl_any : SlR X (fun x lo hi H Q => rSlA X.K x lo hi H Q) := SlR.or sl_list sl_str
theorem cons_inv {e : Expr} {es : List Expr} {as : CL} (h : PAg X Γ shs (e :: es) as) : (∃ c r, as = .cons c r ∧ PE X e (rdE X.K Γ shs c .sh) ∧ PAg X Γ shs es r) ∨ ∃ i r, as = .slot i r ∧ PE X e (tVar i) ∧ PAg X Γ shs es r := by
  cases h with
  | cons _ h r => exact .inl ⟨_, _, rfl, h, r⟩
  | slot _ h r => exact .inr ⟨_, _, rfl, h, r⟩
def allCons : CL → Bool
  | .nil => true
  | .cons _ r => allCons r
  | .slot _ _ => false
theorem cons_only {e : Expr} {es : List Expr} {as : CL} (h : PAg X Γ shs (e :: es) as) (a : allCons as = true) : ∃ c r, as = .cons c r ∧ PE X e (rdE X.K Γ shs c .sh) ∧ PAg X Γ shs es r ∧ allCons r = true := by
  cases h with
  | cons _ h r => exact ⟨_, _, rfl, h, r, a⟩
  | slot _ _ _ => cases a
theorem nil_inv {as : CL} (h : PAg X Γ shs [] as) : as = .nil := by cases h; rfl
/-- the reading of a list of values, ints -/
theorem int_ok {c : CE} {d : D} {v : V} {i : Int} (e : d = .int i) (sc : Scal d v) : v = .int i := sc.2.1 i e
/-- the first operand's reading, either form -/
theorem head_rd {as : CL} {es : List Expr} (ha : PAg X Γ shs (a :: es) as) : ∃ ta r, PE X a ta ∧ PAg X Γ shs es r ∧ (∀ {σ H Q ds}, tArgsR X.K Γ shs as ds Q σ H → ∃ d ds', ds = d :: ds' ∧ ta σ H fun v H1 => Scal d v ∧ tArgsR X.K Γ shs r ds' (fun vs H2 => Q (v :: vs) H2) σ H1) ∧
    (∀ {σ H Q Q'}, ta σ H Q → (∀ v H', Q v H' → Q' v H') → ta σ H Q') := by
  cases ha with
  | @cons _ _ c r n h q =>
    refine ⟨_, r, h, q, fun {σ H Q ds} z => ?_, fun z i => rdE_mono z i⟩
    cases ds with
    | nil => unfold tArgsR at z; exact z.elim
    | cons d ds => unfold tArgsR at z; exact ⟨d, ds, rfl, z⟩
  | @slot _ _ i r n h q =>
    refine ⟨_, r, h, q, fun {σ H Q ds} z => ?_, fun ⟨v, hv, q⟩ i => ⟨v, hv, i _ _ q⟩⟩
    cases ds with
    | nil => unfold tArgsR at z; exact z.elim
    | cons d ds =>
      unfold tArgsR at z
      obtain ⟨v, hv, sc, q⟩ := z
      exact ⟨d, ds, rfl, v, hv, sc, q⟩
theorem pSlice_len {l h : Bool} {ds : List D} {d : D} (e : pSlice l h ds = some d) : match l, h with
    | false, false => ∃ x, ds = [x]
    | true, false => ∃ x i, ds = [x, .int i]
    | false, true => ∃ x j, ds = [x, .int j]
    | true, true => ∃ x i j, ds = [x, .int i, .int j] := by
  unfold pSlice at e
  split at e
  · exact ⟨_, rfl⟩
  · exact ⟨_, _, rfl⟩
  · exact ⟨_, _, rfl⟩
  · exact ⟨_, _, _, rfl⟩
  · cases e
theorem e_sl00 {p2 : Pos} (ha : PAg X Γ shs [a] as) (wf : as.wf = true) (ok : okSlots true shs as = true) : PE X (.Subscript a (.Slice none none none p2) pos) (rdE X.K Γ shs (.prim (.slice false false) as) .sh) := by
  obtain ⟨ta, r, h1, q, z1, m1⟩ := head_rd ha
  refine peI (pe_slice sl_any h1 po_none po_none) fun σ H Q h => ?_
  obtain ⟨ds, d, e, z⟩ := prim_rdR pr_slice wf ok h
  obtain ⟨d1, ds1, rfl, z⟩ := z1 z
  have := nil_inv q; subst this
  refine m1 z fun v H1 ⟨_, z2⟩ => ?_
  unfold tArgsR at z2
  exact z2
theorem e_sl10 {p2 : Pos} (ha : PAg X Γ shs [a, b] as) (wf : as.wf = true) (ok : okSlots true shs as = true) : PE X (.Subscript a (.Slice (some b) none none p2) pos) (rdE X.K Γ shs (.prim (.slice true false) as) .sh) := by
  obtain ⟨ta, r, h1, q, z1, m1⟩ := head_rd ha
  obtain ⟨tb, r2, h2, q2, z2, m2⟩ := head_rd q
  refine peI (pe_slice sl_any h1 (po_some h2) po_none) fun σ H Q h => ?_
  obtain ⟨ds, d, e, z⟩ := prim_rdR pr_slice wf ok h
  obtain ⟨x, i, rfl⟩ := pSlice_len e
  obtain ⟨d1, ds1, ee, z⟩ := z1 z
  cases ee
  have := nil_inv q2; subst this
  refine m1 z fun v H1 ⟨_, y⟩ => ?_
  obtain ⟨d2, ds2, ee, y⟩ := z2 y
  cases ee
  refine m2 y fun u H2 ⟨sc, y⟩ => ?_
  unfold tArgsR at y
  obtain ⟨j, hj, y⟩ := y
  exact ⟨j, hj, y⟩
theorem e_sl01 {p2 : Pos} (ha : PAg X Γ shs [a, b] as) (wf : as.wf = true) (ok : okSlots true shs as = true) : PE X (.Subscript a (.Slice none (some b) none p2) pos) (rdE X.K Γ shs (.prim (.slice false true) as) .sh) := by
  obtain ⟨ta, r, h1, q, z1, m1⟩ := head_rd ha
  obtain ⟨tb, r2, h2, q2, z2, m2⟩ := head_rd q
  refine peI (pe_slice sl_any h1 po_none (po_some h2)) fun σ H Q h => ?_
  obtain ⟨ds, d, e, z⟩ := prim_rdR pr_slice wf ok h
  obtain ⟨x, i, rfl⟩ := pSlice_len e
  obtain ⟨d1, ds1, ee, z⟩ := z1 z
  cases ee
  have := nil_inv q2; subst this
  refine m1 z fun v H1 ⟨_, y⟩ => ?_
  obtain ⟨d2, ds2, ee, y⟩ := z2 y
  cases ee
  refine m2 y fun u H2 ⟨sc, y⟩ => ?_
  unfold tArgsR at y
  obtain ⟨j, hj, y⟩ := y
  exact ⟨j, hj, y⟩
theorem e_sl11 {c : Expr} {p2 : Pos} (ha : PAg X Γ shs [a, b, c] as) (wf : as.wf = true) (ok : okSlots true shs as = true) : PE X (.Subscript a (.Slice (some b) (some c) none p2) pos) (rdE X.K Γ shs (.prim (.slice true true) as) .sh) := by
  obtain ⟨ta, r, h1, q, z1, m1⟩ := head_rd ha
  obtain ⟨tb, r2, h2, q2, z2, m2⟩ := head_rd q
  obtain ⟨tc, r3, h3, q3, z3, m3⟩ := head_rd q2
  refine peI (pe_slice sl_any h1 (po_some h2) (po_some h3)) fun σ H Q h => ?_
  obtain ⟨ds, d, e, z⟩ := prim_rdR pr_slice wf ok h
  obtain ⟨x, i, j, rfl⟩ := pSlice_len e
  obtain ⟨d1, ds1, ee, z⟩ := z1 z
  cases ee
  have := nil_inv q3; subst this
  refine m1 z fun v H1 ⟨_, y⟩ => ?_
  obtain ⟨d2, ds2, ee, y⟩ := z2 y
  cases ee
  refine m2 y fun u H2 ⟨sc, y⟩ => ⟨i, sc.2.1 i rfl, ?_⟩
  obtain ⟨d3, ds3, ee, y⟩ := z3 y
  cases ee
  refine m3 y fun u3 H3 ⟨sc3, y⟩ => ⟨j, sc3.2.1 j rfl, ?_⟩
  unfold tArgsR at y
  obtain ⟨i', j', e1, e2, y⟩ := y
  have := sc.2.1 i rfl
  rw [this] at e1; cases e1
  have := sc3.2.1 j rfl
  rw [this] at e2; cases e2
  exact y
end
end
end Ev

/-! EvF: names, constants, displays, tests. -/
namespace Ev
open PySem PySem.Spec PyProof.Rows L2
section
variable {X : Cx} {Γ : List Fn} {shs : List Sh} {pos : Pos}
/-! ### names -/
theorem e_var {i : Nat} {e : Expr} (h : PE X e (tVar i)) (hs : shs[i]? = some .sh) : PE X e (rdE X.K Γ shs (.var i) .sh) := by
  refine peI h fun σ H Q q => ?_
  obtain ⟨w, d, S', rfl, k, e, h⟩ := q
  unfold CE.run at e
  split at e
  · rename_i d' ed
    cases e
    obtain ⟨v, hv, o⟩ := k.own i d .sh ed hs
    obtain ⟨hF, rp⟩ := o.nilR
    exact ⟨v, hv, h w v [] rfl k .refl (.sh rp)⟩
  · cases e
/-- a slot given away -/
def giveW (w : Wd) (i : Nat) : Wd := { w with S := w.S.set i none, F := fun j => if j = i then [] else w.F j }
theorem give_ok {K : Fg} {σ : L2.St} {w : Wd} {i : Nat} (k : StOk K shs σ w) : StOk K shs σ (giveW w i) where
  len := by simp [giveW, k.len]
  lenσ := k.lenσ
  own := fun j d s h1 h2 => by
    have h1 : (w.S.set i none)[j]? = some (some d) := h1
    by_cases hj : j = i
    · subst hj
      rw [List.getElem?_set] at h1
      split at h1
      · split at h1 <;> cases h1
      · rename_i z; exact absurd rfl z
    · rw [List.getElem?_set_ne (Ne.symm hj)] at h1
      obtain ⟨v, hv, o⟩ := k.own j d s h1 h2
      refine ⟨v, hv, ?_⟩
      show Own K w.G w.H s d v (if j = i then [] else w.F j)
      rw [if_neg hj]; exact o
  emp := fun j h => by
    show (if j = i then [] else w.F j) = []
    by_cases hj : j = i
    · rw [if_pos hj]
    · rw [if_neg hj]
      refine k.emp j fun d z => h d ?_
      show (w.S.set i none)[j]? = _
      rw [List.getElem?_set_ne (Ne.symm hj)]; exact z
  sub := k.sub
  off := fun j a h => by
    have h : a ∈ (if j = i then [] else w.F j) := h
    by_cases hj : j = i
    · rw [if_pos hj] at h; cases h
    · rw [if_neg hj] at h; exact k.off j a h
  dis := fun j l a h1 h2 => by
    have h1 : a ∈ (if j = i then [] else w.F j) := h1
    have h2 : a ∈ (if l = i then [] else w.F l) := h2
    by_cases hj : j = i
    · rw [if_pos hj] at h1; cases h1
    · by_cases hl : l = i
      · rw [if_pos hl] at h2; cases h2
      · rw [if_neg hj] at h1; rw [if_neg hl] at h2; exact k.dis j l a h1 h2
theorem give_stp {K : Fg} {σ : L2.St} {w : Wd} {i : Nat} (k : StOk K shs σ w) : Stp (fun j => j ∈ [i]) w (giveW w i) (w.F i) where
  off := fun a ha => ⟨k.off i a ha, k.dom ha, fun j h => by
    have h : a ∈ (if j = i then [] else w.F j) := h
    by_cases hj : j = i
    · rw [if_pos hj] at h; cases h
    · rw [if_neg hj] at h; exact hj (k.dis j i a h ha)⟩
  grow := Same.refl _
  keep := fun a o h _ => h
  new := fun a h => by
    rcases h with h | ⟨j, h⟩ | h
    · exact .inl h
    · have h : a ∈ (if j = i then [] else w.F j) := h
      by_cases hj : j = i
      · rw [if_pos hj] at h; cases h
      · rw [if_neg hj] at h; exact .inr (.inl ⟨j, h⟩)
    · exact .inr (.inl ⟨i, h⟩)
  un := fun j n => by
    have hj : j ≠ i := fun z => n (by simp [z])
    refine ⟨List.getElem?_set_ne (Ne.symm hj), if_neg hj, fun a _ => rfl⟩
theorem e_mv {i : Nat} {e : Expr} {s : Sh} (h : PE X e (tVar i)) (hs : shs[i]? = some s) : PE X e (rdE X.K Γ shs (.mv i) s) := by
  refine peI h fun σ H Q q => ?_
  obtain ⟨w, d, S', rfl, k, e, h⟩ := q
  unfold CE.run at e
  split at e
  · rename_i d' ed
    cases e
    obtain ⟨v, hv, o⟩ := k.own i d s ed hs
    exact ⟨v, hv, h (giveW w i) v (w.F i) rfl (give_ok k) (give_stp k) o⟩
  · cases e
/-- an owned value where a shared one is wanted -/
theorem e_melt {e : Expr} {c : CE} {s : Sh} (h : PE X e (rdE X.K Γ shs c s)) (hs : s.ok = true) : PE X e (rdE X.K Γ shs c .sh) := peI h fun _ _ _ q => rdE_melt hs q
/-! ### constants -/
theorem e_const {e : Expr} {d : D} {v : V} (h : PE X e (tC v)) (r : ∀ G, Rep X.K G d v) : PE X e (rdE X.K Γ shs (.k d) .sh) := by
  refine peI h fun σ H Q q => ?_
  obtain ⟨w, d', S', rfl, k, e, h⟩ := q
  unfold CE.run at e
  cases e
  exact h w v [] rfl k .refl (.sh (r _))
/-! ### displays -/
theorem repL_of {K : Fg} {σ : L2.St} {w : Wd} {as : CL} {ds : List D} {vs : List V} (a : ArgOk K σ w as ds vs) (h : allCons as = true) : RepL K w.G ds vs := by
  induction a with
  | nil => exact .nil
  | cons h1 _ ih => exact .cons h1 (ih h)
  | slot _ _ _ _ => cases h
theorem e_lst {es : List Expr} {as : CL} (ha : PAg X Γ shs es as) (hc : allCons as = true) (wf : as.wf = true) : PE X (.List es pos) (rdE X.K Γ shs (.lst as) (.lst .sh)) := by
  refine peI (pe_lst ha.pa) fun σ H Q q => ?_
  obtain ⟨w, d, S', rfl, k, e, h⟩ := q
  unfold CE.run at e
  obtain ⟨ds, S1, e1, e⟩ := Res.bind_ok e
  split at e
  · rename_i hz
    cases e
    refine args_ok as wf k e1 fun w1 vs hs k1 t1 a1 => ?_
    have r := repL_of a1 hc
    refine ⟨by rw [← r.length]; exact size_line hz, fun p hp => ?_⟩
    have sm : Same w1.H (upd w1.H p (.lst vs)) := fun b o eb => by rw [upd_ne (ne_of_none eb hp)]; exact eb
    refine h { w1 with H := upd w1.H p (.lst vs) } (.ref p) [p] hs (k1.ext sm) ?_ (.lst (F := []) upd_same (.of r) (by simp))
    refine (Stp.trans k k1 t1 (Stp.ext (mu := fun i => i ∈ as.mu) k1 sm fun a ha => ?_)).mono fun i hi => by unfold CE.mu; exact hi
    rw [List.mem_singleton] at ha
    subst ha
    exact ⟨hp, by rw [upd_same]; simp⟩
  · cases e
theorem e_tup {es : List Expr} {as : CL} {x1} (ha : PAg X Γ shs es as) (hc : allCons as = true) (wf : as.wf = true) : PE X (.Tuple es x1 pos) (rdE X.K Γ shs (.tup as) .tp) := by
  refine peI (pe_tup ha.pa) fun σ H Q q => ?_
  obtain ⟨w, d, S', rfl, k, e, h⟩ := q
  unfold CE.run at e
  obtain ⟨ds, S1, e1, e⟩ := Res.bind_ok e
  split at e
  · rename_i hz
    cases e
    refine args_ok as wf k e1 fun w1 vs hs k1 t1 a1 => ?_
    have r := repL_of a1 hc
    refine ⟨by rw [← r.length]; exact size_line hz, fun p hp => ?_⟩
    have sm : Same w1.H (upd w1.H p (.tup vs)) := fun b o eb => by rw [upd_ne (ne_of_none eb hp)]; exact eb
    refine h { w1 with H := upd w1.H p (.tup vs) } (.ref p) [p] hs (k1.ext sm) ?_ (.tp upd_same r)
    refine (Stp.trans k k1 t1 (Stp.ext (mu := fun i => i ∈ as.mu) k1 sm fun a ha => ?_)).mono fun i hi => by unfold CE.mu; exact hi
    rw [List.mem_singleton] at ha
    subst ha
    exact ⟨hp, by rw [upd_same]; simp⟩
  · cases e
/-! ### tests -/
def rdT (K : Fg) (Γ : List Fn) (shs : List Sh) (c : CE) : TT := fun σ H Q => ∃ (w : Wd) (b : Bool) (S' : Env0D), w.H = H ∧ StOk K shs σ w ∧ c.run Γ w.S = .ok (.bl b) S' ∧
  ∀ (w' : Wd), w'.S = S' → StOk K shs σ w' → Stp (fun i => i ∈ c.mu) w w' [] → Q b w'.H
theorem rdT_rdE {K : Fg} {c : CE} {σ : L2.St} {H : Hp} {Q : Bool → Hp → Prop} (h : rdT K Γ shs c σ H Q) : tB (rdE K Γ shs c .sh) σ H Q := by
  obtain ⟨w, b, S', e, k, r, h⟩ := h
  refine ⟨w, .bl b, S', e, k, r, fun w' v R e' k' t o => ?_⟩
  obtain ⟨rfl, rp⟩ := o.nilR
  exact ⟨b, by cases rp; rfl, h w' e' k' t⟩
theorem t_val {e : Expr} {c : CE} (h : PE X e (rdE X.K Γ shs c .sh)) (he : ∀ whole, isTrue e X.env whole = (do let v ← whole; standAt e.pos; holding [v] (truthy v))) : PT X e (rdT X.K Γ shs c) :=
  ptI (pt_val h he) fun _ _ _ q => rdT_rdE q
theorem t_cmp {op : CmpOp} {r : R2} {fz : Bool} {p : Pr} {a b : Expr} {as : CL} (ho : OpR X (compareOp op) r) (hr : PrimRd fz X.K p .sh (r2 r)) (hm : behindInMarks op b = false) (ha : PAg X Γ shs [a, b] as) (wf : as.wf = true) (ok : okSlots fz shs as = true) :
    PT X (.Compare a [op] [b] pos) (rdT X.K Γ shs (.prim p as)) := by
  obtain ⟨ta, tb, h1, h2, e⟩ := ha.two
  refine ptI (pt_cmpR ho h1 h2 hm) fun σ H Q h => ?_
  have z := prim_rd hr wf ok (rdT_rdE h)
  rw [e] at z
  exact z
theorem t_isN {a : Expr} {as : CL} {j pos'} (ha : PAg X Γ shs [a] as) (wf : as.wf = true) (ok : okSlots true shs as = true) : PT X (.Compare a [.Is] [.Constant .none j pos'] pos) (rdT X.K Γ shs (.prim .isN as)) := by
  obtain ⟨ta, h1, e⟩ := ha.one
  refine ptI (pt_cmp (pc_isN h1) rfl) fun σ H Q h => ?_
  have z := prim_rd pr_isN wf ok (rdT_rdE h)
  rw [e] at z
  exact z
theorem t_notN {a : Expr} {as : CL} {j pos'} (ha : PAg X Γ shs [a] as) (wf : as.wf = true) (ok : okSlots true shs as = true) : PT X (.Compare a [.IsNot] [.Constant .none j pos'] pos) (rdT X.K Γ shs (.prim .notN as)) := by
  obtain ⟨ta, h1, e⟩ := ha.one
  refine ptI (pt_cmp (pc_notN h1) rfl) fun σ H Q h => ?_
  have z := prim_rd pr_notN wf ok (rdT_rdE h)
  rw [e] at z
  exact z
/-- two tests, one behind the other -/
theorem bool_ok {d : D} {S S' : Env0D} {f g : Env0D → Res D} {b : Bool} (e : (match d with
      | .bl true => f S
      | .bl false => g S
      | _ => Res.bad) = .ok (.bl b) S') : (d = .bl true ∧ f S = .ok (.bl b) S') ∨ (d = .bl false ∧ g S = .ok (.bl b) S') := by
  split at e
  · exact .inl ⟨rfl, e⟩
  · exact .inr ⟨rfl, e⟩
  · cases e
theorem t_and {a b : Expr} {rest : List Expr} {ca cb : CE} (ha : PT X a (rdT X.K Γ shs ca)) (hb : PW X (.BoolOp .And (b :: rest) pos) (rdT X.K Γ shs cb)) : PW X (.BoolOp .And (a :: b :: rest) pos) (rdT X.K Γ shs (.and ca cb)) := by
  refine ⟨fun wh pins s σ H Q I q => (pw_and ha hb).run wh pins s σ H Q I ?_⟩
  obtain ⟨w, b', S', rfl, k, e, h⟩ := q
  unfold CE.run at e
  obtain ⟨d, S1, e1, e⟩ := Res.bind_ok e
  rcases bool_ok (g := fun S1 => .ok (.bl false) S1) e with ⟨rfl, e⟩ | ⟨rfl, e⟩
  · refine ⟨w, true, _, rfl, k, e1, fun w1 hs k1 t1 => ?_⟩
    refine iteT ?_
    subst hs
    refine ⟨w1, b', S', rfl, k1, e, fun w2 hs2 k2 t2 => h w2 hs2 k2 ?_⟩
    exact Stp.trans (R1 := []) k k1 (t1.mono fun i hi => by unfold CE.mu; exact List.mem_append_left _ hi) (t2.mono fun i hi => by unfold CE.mu; exact List.mem_append_right _ hi)
  · cases e
    refine ⟨w, false, _, rfl, k, e1, fun w1 hs k1 t1 => ?_⟩
    refine iteF ?_
    exact h w1 hs k1 (t1.mono fun i hi => by unfold CE.mu; exact List.mem_append_left _ hi)
theorem t_or {a b : Expr} {rest : List Expr} {ca cb : CE} (ha : PT X a (rdT X.K Γ shs ca)) (hb : PW X (.BoolOp .Or (b :: rest) pos) (rdT X.K Γ shs cb)) : PW X (.BoolOp .Or (a :: b :: rest) pos) (rdT X.K Γ shs (.or ca cb)) := by
  refine ⟨fun wh pins s σ H Q I q => (pw_or ha hb).run wh pins s σ H Q I ?_⟩
  obtain ⟨w, b', S', rfl, k, e, h⟩ := q
  unfold CE.run at e
  obtain ⟨d, S1, e1, e⟩ := Res.bind_ok e
  have e' : (match d with
      | .bl true => Res.ok (D.bl true) S1
      | .bl false => cb.run Γ S1
      | _ => Res.bad) = .ok (.bl b') S' := by
    rw [← e]
    cases d with
    | bl x => cases x <;> rfl
    | _ => rfl
  rcases bool_ok (f := fun S1 => .ok (.bl true) S1) e' with ⟨rfl, e⟩ | ⟨rfl, e⟩
  · cases e
    refine ⟨w, true, _, rfl, k, e1, fun w1 hs k1 t1 => ?_⟩
    refine iteT ?_
    exact h w1 hs k1 (t1.mono fun i hi => by unfold CE.mu; exact List.mem_append_left _ hi)
  · refine ⟨w, false, _, rfl, k, e1, fun w1 hs k1 t1 => ?_⟩
    refine iteF ?_
    subst hs
    refine ⟨w1, b', S', rfl, k1, e, fun w2 hs2 k2 t2 => h w2 hs2 k2 ?_⟩
    exact Stp.trans (R1 := []) k k1 (t1.mono fun i hi => by unfold CE.mu; exact List.mem_append_left _ hi) (t2.mono fun i hi => by unfold CE.mu; exact List.mem_append_right _ hi)
theorem t_not {a : Expr} {ca : CE} (ha : PT X a (rdT X.K Γ shs ca)) : PT X (.UnaryOp .Not a pos) (rdT X.K Γ shs (.prim .not (.cons ca .nil))) := by
  refine ptI (pt_not ha) fun σ H Q q => ?_
  obtain ⟨w, b, S', rfl, k, e, h⟩ := q
  unfold CE.run at e
  obtain ⟨ds, S1, e1, e⟩ := Res.bind_ok e
  unfold CL.run at e1
  obtain ⟨d1, Sa, ea, e1⟩ := Res.bind_ok e1
  unfold CL.run at e1
  cases e1
  split at e
  · rename_i d' ed
    cases e
    replace ed : pNot [d1] = some (.bl b) := ed
    unfold pNot at ed
    split at ed
    · rename_i x hx
      cases hx
      cases ed
      refine ⟨w, x, _, rfl, k, ea, fun w1 hs k1 t1 => h w1 hs k1 (t1.mono fun i hi => by simp [CE.mu, CL.mu]; exact hi)⟩
    · cases ed
  · cases e
/-! .. as values -/
theorem e_and {a b : Expr} {rest : List Expr} {ca cb : CE} (ha : PE X a (rdE X.K Γ shs ca .sh)) (hb : PE X (.BoolOp .And (b :: rest) pos) (rdE X.K Γ shs cb .sh)) : PE X (.BoolOp .And (a :: b :: rest) pos) (rdE X.K Γ shs (.and ca cb) .sh) := by
  refine peI (pe_and ha hb) fun σ H Q q => ?_
  obtain ⟨w, d, S', rfl, k, e, h⟩ := q
  unfold CE.run at e
  obtain ⟨d1, S1, e1, e⟩ := Res.bind_ok e
  refine ⟨w, d1, S1, rfl, k, e1, fun w1 v R hs k1 t1 o => ?_⟩
  obtain ⟨rfl, rp⟩ := o.nilR
  subst hs
  split at e
  · cases rp
    refine ⟨true, rfl, ?_⟩
    refine iteT ?_
    refine ⟨w1, d, S', rfl, k1, e, fun w2 v2 R2 hs2 k2 t2 o2 => h w2 v2 R2 hs2 k2 ?_ o2⟩
    exact Stp.trans (R1 := []) k k1 (t1.mono fun i hi => by unfold CE.mu; exact List.mem_append_left _ hi) (t2.mono fun i hi => by unfold CE.mu; exact List.mem_append_right _ hi)
  · cases e
    cases rp
    refine ⟨false, rfl, ?_⟩
    refine iteF ?_
    exact h w1 (.bl false) [] rfl k1 (t1.mono fun i hi => by unfold CE.mu; exact List.mem_append_left _ hi) (.sh (.bl _))
  · cases e
theorem e_or {a b : Expr} {rest : List Expr} {ca cb : CE} (ha : PE X a (rdE X.K Γ shs ca .sh)) (hb : PE X (.BoolOp .Or (b :: rest) pos) (rdE X.K Γ shs cb .sh)) : PE X (.BoolOp .Or (a :: b :: rest) pos) (rdE X.K Γ shs (.or ca cb) .sh) := by
  refine peI (pe_or ha hb) fun σ H Q q => ?_
  obtain ⟨w, d, S', rfl, k, e, h⟩ := q
  unfold CE.run at e
  obtain ⟨d1, S1, e1, e⟩ := Res.bind_ok e
  refine ⟨w, d1, S1, rfl, k, e1, fun w1 v R hs k1 t1 o => ?_⟩
  obtain ⟨rfl, rp⟩ := o.nilR
  subst hs
  split at e
  · cases rp
    refine ⟨false, rfl, ?_⟩
    refine iteF ?_
    refine ⟨w1, d, S', rfl, k1, e, fun w2 v2 R2 hs2 k2 t2 o2 => h w2 v2 R2 hs2 k2 ?_ o2⟩
    exact Stp.trans (R1 := []) k k1 (t1.mono fun i hi => by unfold CE.mu; exact List.mem_append_left _ hi) (t2.mono fun i hi => by unfold CE.mu; exact List.mem_append_right _ hi)
  · cases e
    cases rp
    refine ⟨true, rfl, ?_⟩
    refine iteT ?_
    exact h w1 (.bl true) [] rfl k1 (t1.mono fun i hi => by unfold CE.mu; exact List.mem_append_left _ hi) (.sh (.bl _))
  · cases e
theorem e_not {a : Expr} {ca : CE} (ha : PE X a (rdE X.K Γ shs ca .sh)) : PE X (.UnaryOp .Not a pos) (rdE X.K Γ shs (.prim .not (.cons ca .nil)) .sh) := by
  refine peI (pe_not ha) fun σ H Q q => ?_
  obtain ⟨w, d, S', rfl, k, e, h⟩ := q
  unfold CE.run at e
  obtain ⟨ds, S1, e1, e⟩ := Res.bind_ok e
  unfold CL.run at e1
  obtain ⟨d1, Sa, ea, e1⟩ := Res.bind_ok e1
  unfold CL.run at e1
  cases e1
  split at e
  · rename_i d' ed
    cases e
    replace ed : pNot [d1] = some d := ed
    unfold pNot at ed
    split at ed
    · rename_i x hx
      cases hx
      cases ed
      refine ⟨w, .bl x, _, rfl, k, ea, fun w1 v R hs k1 t1 o => ?_⟩
      obtain ⟨rfl, rp⟩ := o.nilR
      cases rp
      exact ⟨x, rfl, h w1 _ [] hs k1 (t1.mono fun i hi => by simp [CE.mu, CL.mu]; exact hi) (.sh (.bl _))⟩
    · cases ed
  · cases e
theorem e_ife {c a b : Expr} {cc ca cb : CE} {s : Sh} (hc : PT X c (rdT X.K Γ shs cc)) (ha : PE X a (rdE X.K Γ shs ca s)) (hb : PE X b (rdE X.K Γ shs cb s)) : PE X (.IfExp c a b pos) (rdE X.K Γ shs (.ife cc ca cb) s) := by
  refine peI (pe_ifExp hc ha hb) fun σ H Q q => ?_
  obtain ⟨w, d, S', rfl, k, e, h⟩ := q
  unfold CE.run at e
  obtain ⟨d1, S1, e1, e⟩ := Res.bind_ok e
  split at e
  · refine ⟨w, true, _, rfl, k, e1, fun w1 hs k1 t1 => ?_⟩
    refine iteT ?_
    subst hs
    refine ⟨w1, d, S', rfl, k1, e, fun w2 v2 R2 hs2 k2 t2 o2 => h w2 v2 R2 hs2 k2 ?_ o2⟩
    exact Stp.trans (R1 := []) k k1 (t1.mono fun i hi => by unfold CE.mu; exact List.mem_append_left _ hi) (t2.mono fun i hi => by unfold CE.mu; exact List.mem_append_right _ (List.mem_append_left _ hi))
  · refine ⟨w, false, _, rfl, k, e1, fun w1 hs k1 t1 => ?_⟩
    refine iteF ?_
    subst hs
    refine ⟨w1, d, S', rfl, k1, e, fun w2 v2 R2 hs2 k2 t2 o2 => h w2 v2 R2 hs2 k2 ?_ o2⟩
    exact Stp.trans (R1 := []) k k1 (t1.mono fun i hi => by unfold CE.mu; exact List.mem_append_left _ hi) (t2.mono fun i hi => by unfold CE.mu; exact List.mem_append_right _ (List.mem_append_right _ hi))
  · cases e
end
end Ev

/-! EvG: what is walked; statements. -/
namespace Ev
open PySem PySem.Spec PyProof.Rows L2

/-! ### what a walk yields -/
structure ItOk (K : Fg) (G : Hp) (J : It) (xs : List D) (P : Hp → Prop) : Prop where
  go : ∀ i H, i < xs.length → P H → J.go i H
  stop : ∀ H, P H → J.stop xs.length H
  yld : ∀ i H x H' d, P H → xs[i]? = some d → J.yld i H x H' → Same H H' ∧ ∃ (R : List Addr) (s : Sh), s.ok = true ∧ (∀ a ∈ R, H a = none ∧ H' a ≠ none) ∧ Own K G H' s d x R
/-- the walk of some arguments: wi's reading -/
def WkRd (K : Fg) (Γ : List Fn) (shs : List Sh) (fz : Bool) (wi : TI) (wk : Wk) (as : CL) : Prop := ∀ {σ : L2.St} {w : Wd} {ds : List D} {S' : Env0D} {xs : List D} {Q : It → Hp → Prop}, as.wf = true → okSlots fz shs as = true → StOk K shs σ w → as.run Γ w.S = .ok ds S' → itemsOf wk ds = some xs →
  (∀ (w' : Wd) (J : It) (P : Hp → Prop), w'.S = S' → StOk K shs σ w' → Stp (fun i => i ∈ as.mu) w w' [] → ItOk K w'.G J xs P → (∀ H', Same w'.G H' → (∀ i ∈ as.slots, ∀ a ∈ w'.F i, H' a = w'.H a) → P H') → Q J w'.H) → wi σ w.H Q

theorem piO {X : Cx} {tg it : Expr} {w1 w2 : TI} (h1 : PI X tg it w1) (h2 : PI X tg it w2) : PI X tg it (fun σ H R => w1 σ H R ∨ w2 σ H R) := ⟨fun pins s σ H R I h => by
  rcases h with h | h
  · exact h1.run pins s σ H R I h
  · exact h2.run pins s σ H R I h⟩

section
variable {X : Cx} {Γ : List Fn} {shs : List Sh} {pos : Pos} {tg : Expr}
theorem list_it {K : Fg} {G : Hp} {a : Addr} {ds : List D} {vs : List V} (r : RepL K G ds vs) : ItOk K G (Itl K a) ds (fun H => SqL K H a vs) where
  go := fun i H hi hP => ⟨vs, vs[i]'(by rw [← r.length]; exact hi), hP, List.getElem?_eq_getElem _⟩
  stop := fun H hP => ⟨vs, hP, by rw [r.length]; exact Nat.le_refl _⟩
  yld := fun i H x H' d hP hd ⟨e, hx⟩ => by
    subst e
    obtain ⟨v, hv, rv⟩ := r.get hd
    have := hx vs hP
    rw [hv] at this
    cases this
    exact ⟨Same.refl _, [], .sh, rfl, fun a ha => (by cases ha), .sh rv⟩
theorem tup_it {K : Fg} {G : Hp} {a : Addr} {ds : List D} {vs : List V} (r : RepL K G ds vs) : ItOk K G (Itt K a) ds (fun H => SqT K H a vs) where
  go := fun i H hi hP => ⟨vs, vs[i]'(by rw [← r.length]; exact hi), hP, List.getElem?_eq_getElem _⟩
  stop := fun H hP => ⟨vs, hP, by rw [r.length]; exact Nat.le_refl _⟩
  yld := fun i H x H' d hP hd ⟨e, hx⟩ => by
    subst e
    obtain ⟨v, hv, rv⟩ := r.get hd
    have := hx vs hP
    rw [hv] at this
    cases this
    exact ⟨Same.refl _, [], .sh, rfl, fun a ha => (by cases ha), .sh rv⟩
theorem str_it {K : Fg} {G : Hp} {x : Str} : ItOk K G (Its x) (x.cps.toList.map fun c => .str ⟨#[c]⟩) (fun _ => True) where
  go := fun i H hi _ => by
    have : i < x.cps.size := by simpa using hi
    exact this
  stop := fun H _ => by
    show x.cps.size ≤ _
    simp
  yld := fun i H v H' d _ hd ⟨e, c, hc, hv⟩ => by
    subst e hv
    have hd' : d = .str ⟨#[c]⟩ := by
      rw [List.getElem?_map, Array.getElem?_toList, hc] at hd
      exact (Option.some.inj hd).symm
    subst hd'
    exact ⟨Same.refl _, [], .sh, rfl, fun a ha => (by cases ha), .sh (.str _)⟩
theorem range_it' {K : Fg} {G : Hp} {n : Nat} : ItOk K G (Itr 0 n) ((List.range n).map fun i : Nat => .int i) (fun _ => True) where
  go := fun i H hi _ => by
    have : i < n := by simpa using hi
    exact this
  stop := fun H _ => by
    show n ≤ _
    simp
  yld := fun i H v H' d _ hd ⟨e, hv⟩ => by
    subst e hv
    have hl : i < n := by
      rcases Nat.lt_or_ge i n with z | z
      · exact z
      · rw [List.getElem?_eq_none (by simpa using z)] at hd; cases hd
    have hd' : d = .int ((0 : Int) + (i : Nat)) := by
      rw [List.getElem?_map, List.getElem?_range hl] at hd
      have := Option.some.inj hd
      rw [← this]; simp
    subst hd'
    exact ⟨Same.refl _, [], .sh, rfl, fun a ha => (by cases ha), .sh (.int _)⟩
theorem enum_it {K : Fg} {G : Hp} {a : Addr} {ds : List D} {vs : List V} (r : RepL K G ds vs) : ItOk K G (Ite K a) (ds.zipIdx.map fun p => .tup [.int p.2, p.1]) (fun H => SqL K H a vs) where
  go := fun i H hi hP => ⟨vs, vs[i]'(by rw [← r.length]; simpa using hi), hP, List.getElem?_eq_getElem _⟩
  stop := fun H hP => ⟨vs, hP, by simp [r.length]⟩
  yld := fun i H x H' d hP hd ⟨T, y, e1, hT, e2, hx⟩ => by
    subst e1 e2
    rw [List.getElem?_map, List.getElem?_zipIdx] at hd
    cases q : ds[i]? with
    | none => rw [q] at hd; cases hd
    | some d0 =>
      rw [q] at hd
      have hd' := Option.some.inj hd
      simp only at hd'
      subst hd'
      obtain ⟨v, hv, rv⟩ := r.get q
      have := hx vs hP
      rw [hv] at this
      cases this
      refine ⟨fun b o eb => by rw [upd_ne (ne_of_none eb hT)]; exact eb, [T], .tp, rfl, fun a ha => ?_, .tp upd_same (.cons (by simpa using Rep.int (i : Int)) (.cons rv .nil))⟩
      rw [List.mem_singleton] at ha
      subst ha
      exact ⟨hT, by rw [upd_same]; simp⟩
/-- the one operand's list -/
theorem arg1 {K : Fg} {fz : Bool} {σ : L2.St} {w : Wd} {as : CL} {ds : List D} {vs : List V} (k : StOk K shs σ w) (ok : okSlots fz shs as = true) (a : ArgOk K σ w as ds vs) {xs : List D} (e : ds = [.lst xs]) :
    ∃ p us, vs = [.ref p] ∧ RepL K w.G xs us ∧ ∀ H', Same w.G H' → (∀ i ∈ as.slots, ∀ a ∈ w.F i, H' a = w.H a) → SqL K H' p us := by
  subst e
  cases a with
  | cons h r =>
    cases r
    cases h with
    | lst h r => exact ⟨_, _, rfl, r, fun H' sm _ => .inl (.inl (sm _ _ h))⟩
  | @slot i r d ds v vs e hv q =>
    cases q
    unfold okSlots at ok
    cases hs : shs[i]? with
    | none => rw [hs] at ok; cases ok
    | some s =>
      obtain ⟨v', hv', o⟩ := k.own i _ s e hs
      rw [hv] at hv'
      cases hv'
      generalize hF : w.F i = Fi at o
      cases o with
      | sh h =>
        cases h with
        | lst h r => exact ⟨_, _, rfl, r, fun H' sm _ => .inl (.inl (sm _ _ h))⟩
      | frz h r => exact ⟨_, _, rfl, r, fun H' sm _ => sm.seq h⟩
      | @lst a' s' ds' vs' F' h r n =>
        rw [hs] at ok
        cases s' with
        | sh =>
          refine ⟨_, _, rfl, (OwnL.sh r).2, fun H' sm un => .inl (.inl ?_)⟩
          rw [un i (by simp [CL.slots]) _ (by rw [hF]; exact List.mem_cons_self)]
          exact h
        | frz => cases ok
        | tp => cases ok
        | lst _ => cases ok
        | dct _ => cases ok
/-- a list, a tuple, a text by itself -/
def wSelf (K : Fg) (t : TE) : TI := fun σ H R => iList K t σ H R ∨ (iTup K t σ H R ∨ iStr t σ H R)
theorem pi_self {e : Expr} {t : TE} (h : PE X e t) : PI X tg e (wSelf X.K t) := piO (pi_list h) (piO (pi_tup h) (pi_str h))
theorem tArgs_one {K : Fg} {as : CL} {t : TE} (e : tArgs K Γ shs as = tCons t tNil) {σ : L2.St} {H : Hp} {Q : List V → Hp → Prop} (h : tArgs K Γ shs as σ H Q) : t σ H fun v H' => Q [v] H' := by
  rw [e] at h
  exact h
theorem arg1t {K : Fg} {fz : Bool} {σ : L2.St} {w : Wd} {as : CL} {ds : List D} {vs : List V} (k : StOk K shs σ w) (ok : okSlots fz shs as = true) (a : ArgOk K σ w as ds vs) {xs : List D} (e : ds = [.tup xs]) :
    ∃ p us, vs = [.ref p] ∧ RepL K w.G xs us ∧ ∀ H', Same w.G H' → SqT K H' p us := by
  have t := a.repTs k ok
  subst e
  obtain ⟨x, rfl, t1⟩ := t.one
  cases t1 with
  | rep h =>
    cases h with
    | tup h r => exact ⟨_, _, rfl, r, fun H' sm => sqT_mono sm h⟩
theorem wk_self {e : Expr} {as : CL} (ha : PAg X Γ shs [e] as) : ∃ wi, PI X tg e wi ∧ WkRd X.K Γ shs true wi .self as := by
  obtain ⟨t, h1, et⟩ := ha.one
  refine ⟨_, pi_self h1, fun {σ w ds S' xs Q} wf ok k er ei h => ?_⟩
  replace ei : iSelf ds = some xs := ei
  unfold iSelf at ei
  split at ei
  · cases ei
    refine .inl (tArgs_one (Q := fun vs H' => match vs with
      | [x] => ∃ a, x = .ref a ∧ (∃ xs, SqL X.K H' a xs) ∧ Q (Itl X.K a) H'
      | _ => False) et (args_ok as wf k er fun w1 vs hs k1 t1 a1 => ?_))
    obtain ⟨p, us, rfl, r, hp⟩ := arg1 k1 ok a1 rfl
    exact ⟨p, rfl, ⟨us, hp w1.H k1.sub fun _ _ _ _ => rfl⟩, h w1 _ _ hs k1 t1 (list_it r) hp⟩
  · cases ei
    refine .inr (.inl (tArgs_one (Q := fun vs H' => match vs with
      | [x] => ∃ a, x = .ref a ∧ (∃ xs, SqT X.K H' a xs) ∧ Q (Itt X.K a) H'
      | _ => False) et (args_ok as wf k er fun w1 vs hs k1 t1 a1 => ?_)))
    obtain ⟨p, us, rfl, r, hp⟩ := arg1t k1 ok a1 rfl
    exact ⟨p, rfl, ⟨us, hp w1.H k1.sub⟩, h w1 _ _ hs k1 t1 (tup_it r) fun H' sm _ => hp H' sm⟩
  · cases ei
    refine .inr (.inr (tArgs_one (Q := fun vs H' => match vs with
      | [x] => ∃ z, x = .str z ∧ Q (Its z) H'
      | _ => False) et (args_ok as wf k er fun w1 vs hs k1 t1 a1 => ?_)))
    obtain ⟨x, rfl, t⟩ := (a1.repTs k1 ok).one
    cases t.str
    exact ⟨_, rfl, h w1 _ _ hs k1 t1 str_it fun _ _ _ => trivial⟩
  · cases ei
theorem wk_range1 {e : Expr} {p : Pos} {as : CL} (hg : Gl X "range") (hm : X.mg "range" = none) (ha : PAg X Γ shs [e] as) : ∃ wi, PI X tg (.Call (.Name "range" p) [e] [] pos) wi ∧ WkRd X.K Γ shs false wi .range1 as := by
  refine ⟨_, pi_range1 hg hm ha.pa ha.star, fun {σ w ds S' xs Q} wf ok k er ei h => ?_⟩
  replace ei : iRange1 ds = some xs := ei
  unfold iRange1 at ei
  split at ei
  · split at ei
    · rename_i n hz
      cases ei
      simp only [Bool.and_eq_true, decide_eq_true_eq] at hz
      refine args_ok as wf k er fun w1 vs hs k1 t1 a1 => ?_
      obtain ⟨x, rfl, t⟩ := (a1.repTs k1 ok).one
      cases t.int
      exact ⟨n, rfl, hz.2, by omega, h w1 _ _ hs k1 t1 range_it' fun _ _ _ => trivial⟩
    · cases ei
  · cases ei
theorem wk_enum {e : Expr} {p tpos : Pos} {elts : List Expr} {kk : Nat} {as : CL} (hg : Gl X "enumerate") (hm : X.mg "enumerate" = none) (ha : PAg X Γ shs [e] as) :
    ∃ wi, PI X (.Tuple elts kk tpos) (.Call (.Name "enumerate" p) [e] [] pos) wi ∧ WkRd X.K Γ shs true wi .enum as := by
  refine ⟨_, pi_enum hg hm ha.pa ha.star, fun {σ w ds S' xs Q} wf ok k er ei h => ?_⟩
  replace ei : iEnumD ds = some xs := ei
  unfold iEnumD at ei
  split at ei
  · cases ei
    refine args_ok as wf k er fun w1 vs hs k1 t1 a1 => ?_
    obtain ⟨p, us, rfl, r, hp⟩ := arg1 k1 ok a1 rfl
    exact ⟨p, us, rfl, hp w1.H k1.sub fun _ _ _ _ => rfl, h w1 _ _ hs k1 t1 (enum_it r) hp⟩
  · cases ei
/-! ### storing -/
/-- a slot takes a value -/
def takeW (w : Wd) (i : Nat) (d : D) (R : List Addr) : Wd := { w with S := w.S.set i (some d), F := fun j => if j = i then R else w.F j }
theorem take_ok {K : Fg} {σ : L2.St} {w : Wd} {i : Nat} {s : Sh} {d : D} {v : V} {R : List Addr} (k : StOk K shs σ w) (hs : shs[i]? = some s) (o : Own K w.G w.H s d v R) (hR : ∀ a ∈ R, w.G a = none ∧ ∀ j, a ∉ w.F j) :
    StOk K shs (σ.set i (some v)) (takeW w i d R) where
  len := by simp [takeW, k.len]
  lenσ := by simp [k.lenσ]
  own := fun j d' s' h1 h2 => by
    have h1 : (w.S.set i (some d))[j]? = some (some d') := h1
    have hl : i < shs.length := by
      rcases Nat.lt_or_ge i shs.length with z | z
      · exact z
      · rw [List.getElem?_eq_none z] at hs; cases hs
    by_cases hj : j = i
    · subst hj
      rw [List.getElem?_set_self (by rw [k.len]; exact hl)] at h1
      cases h1
      rw [hs] at h2
      cases h2
      refine ⟨v, List.getElem?_set_self (by rw [k.lenσ]; exact hl), ?_⟩
      show Own K w.G w.H s d v (if j = j then R else w.F j)
      rw [if_pos rfl]; exact o
    · rw [List.getElem?_set_ne (Ne.symm hj)] at h1
      obtain ⟨v', hv, o'⟩ := k.own j d' s' h1 h2
      refine ⟨v', by rw [List.getElem?_set_ne (Ne.symm hj)]; exact hv, ?_⟩
      show Own K w.G w.H s' d' v' (if j = i then R else w.F j)
      rw [if_neg hj]; exact o'
  emp := fun j h => by
    show (if j = i then R else w.F j) = []
    have hl : i < shs.length := by
      rcases Nat.lt_or_ge i shs.length with z | z
      · exact z
      · rw [List.getElem?_eq_none z] at hs; cases hs
    by_cases hj : j = i
    · subst hj
      exact absurd (List.getElem?_set_self (by rw [k.len]; exact hl)) (h d)
    · rw [if_neg hj]
      refine k.emp j fun d' z => h d' ?_
      show (w.S.set i (some d))[j]? = _
      rw [List.getElem?_set_ne (Ne.symm hj)]; exact z
  sub := k.sub
  off := fun j a h => by
    have h : a ∈ (if j = i then R else w.F j) := h
    by_cases hj : j = i
    · rw [if_pos hj] at h; exact (hR a h).1
    · rw [if_neg hj] at h; exact k.off j a h
  dis := fun j l a h1 h2 => by
    have h1 : a ∈ (if j = i then R else w.F j) := h1
    have h2 : a ∈ (if l = i then R else w.F l) := h2
    by_cases hj : j = i
    · rw [if_pos hj] at h1
      by_cases hl : l = i
      · rw [hj, hl]
      · rw [if_neg hl] at h2; exact absurd h2 ((hR a h1).2 l)
    · rw [if_neg hj] at h1
      by_cases hl : l = i
      · rw [if_pos hl] at h2; exact absurd h1 ((hR a h2).2 j)
      · rw [if_neg hl] at h2; exact k.dis j l a h1 h2
theorem take_stp {mu : Nat → Prop} {w w1 : Wd} {i : Nat} {d : D} {R : List Addr} (t : Stp mu w w1 R) (hi : mu i) : Stp mu w (takeW w1 i d R) [] where
  off := fun a ha => by cases ha
  grow := t.grow
  keep := t.keep
  new := fun a h => by
    rcases h with h | ⟨j, h⟩ | h
    · exact t.new a (.inl h)
    · have h : a ∈ (if j = i then R else w1.F j) := h
      by_cases hj : j = i
      · rw [if_pos hj] at h; exact t.new a (.inr (.inr h))
      · rw [if_neg hj] at h; exact t.new a (.inr (.inl ⟨j, h⟩))
    · cases h
  un := fun j n => by
    have hj : j ≠ i := fun z => n (z ▸ hi)
    obtain ⟨a, b, c⟩ := t.un j n
    exact ⟨(List.getElem?_set_ne (Ne.symm hj)).trans a, (if_neg hj).trans b, c⟩
end
end Ev

/-! EvH: targets, statements, blocks. -/
namespace Ev
open PySem PySem.Spec PyProof.Rows L2
def gsOf : List Nat → TGs
  | [] => gNil
  | i :: r => gCons (gName i) (gsOf r)
def gRd (K : Fg) : Tg → TG
  | .slot i => gName i
  | .tup ts => gTup K ts.length (gsOf ts)
/-- what a target takes -/
def tgSh (shs : List Sh) : Tg → Sh
  | .slot i => (shs[i]?).getD .sh
  | .tup _ => .sh
def tgOk (shs : List Sh) : Tg → Bool
  | .slot i => (shs[i]?).isSome
  | .tup ts => ts.all fun i => shs[i]? == some .sh
section
variable {X : Cx} {Γ : List Fn} {shs : List Sh} {pos : Pos}
theorem bindL_ok {K : Fg} {mu : Nat → Prop} {w : Wd} : ∀ {ts : List Nat} {ds : List D} {vs : List V} {σ : L2.St} {w1 : Wd} {S2 : Env0D} {Q : L2.St → Hp → Prop}, (∀ i ∈ ts, shs[i]? = some .sh) → (∀ i ∈ ts, mu i) → StOk K shs σ w1 → Stp mu w w1 [] → RepL K w1.G ds vs → bindL ts ds w1.S = some S2 →
    (∀ (σ' : L2.St) (w' : Wd), w'.S = S2 → StOk K shs σ' w' → Stp mu w w' [] → (∀ i, i ∉ ts → σ'[i]? = σ[i]?) → Q σ' w'.H) → gsOf ts vs σ w1.H Q
  | [], _, _, σ, w1, S2, Q, _, _, k, t, .nil, e, h => by
    unfold bindL at e
    cases e
    exact ⟨rfl, h σ w1 rfl k t fun _ _ => rfl⟩
  | [], _, _, _, _, _, _, _, _, _, _, .cons _ _, e, _ => by cases e
  | i :: ts, _, _, _, _, _, _, _, _, _, _, .nil, e, _ => by cases e
  | i :: ts, d :: ds, v :: vs, σ, w1, S2, Q, hs, hm, k, t, .cons r rr, e, h => by
    unfold bindL at e
    refine ⟨v, vs, rfl, ?_⟩
    have k2 := take_ok k (hs i List.mem_cons_self) (.sh r) (R := []) (fun a ha => by cases ha)
    have t2 : Stp mu w (takeW w1 i d []) [] := take_stp t (hm i List.mem_cons_self)
    refine bindL_ok (w := w) (w1 := takeW w1 i d []) (fun j hj => hs j (List.mem_cons_of_mem _ hj)) (fun j hj => hm j (List.mem_cons_of_mem _ hj)) k2 t2 rr e fun σ' w' h1 h2 h3 h4 => ?_
    refine h σ' w' h1 h2 h3 fun j hj => ?_
    rw [h4 j fun z => hj (List.mem_cons_of_mem _ z), List.getElem?_set_ne]
    intro z
    exact hj (by rw [z]; exact List.mem_cons_self)
theorem bindL_len : ∀ {ts : List Nat} {ds : List D} {S S2 : Env0D}, bindL ts ds S = some S2 → ts.length = ds.length
  | [], [], _, _, _ => rfl
  | [], _ :: _, _, _, e => by cases e
  | _ :: _, [], _, _, e => by cases e
  | i :: ts, d :: ds, S, S2, e => by
    unfold bindL at e
    simp [bindL_len e]
theorem bind_ok {K : Fg} {mu : Nat → Prop} {w : Wd} {tg : Tg} {σ : L2.St} {w1 : Wd} {d : D} {v : V} {R : List Addr} {S2 : Env0D} {Q : L2.St → Hp → Prop} (ok : tgOk shs tg = true) (hm : ∀ i ∈ tg.slots, mu i) (k : StOk K shs σ w1) (t : Stp mu w w1 R) (o : Own K w1.G w1.H (tgSh shs tg) d v R)
    (e : bindTg tg d w1.S = some S2) (h : ∀ (σ' : L2.St) (w' : Wd), w'.S = S2 → StOk K shs σ' w' → Stp mu w w' [] → (∀ i, i ∉ tg.slots → σ'[i]? = σ[i]?) → Q σ' w'.H) : gRd K tg v σ w1.H Q := by
  cases tg with
  | slot i =>
    replace ok : (shs[i]?).isSome = true := ok
    cases hs : shs[i]? with
    | none => rw [hs] at ok; cases ok
    | some s =>
      have es : tgSh shs (.slot i) = s := by show (shs[i]?).getD .sh = s; rw [hs]; rfl
      rw [es] at o
      replace e : some (w1.S.set i (some d)) = some S2 := e
      cases e
      have k2 := take_ok k hs o fun a ha => ⟨(t.off a ha).1, (t.off a ha).2.2⟩
      refine h (σ.set i (some v)) (takeW w1 i d R) rfl k2 (take_stp t (hm i (by simp [Tg.slots]))) fun j hj => ?_
      rw [List.getElem?_set_ne]
      intro z
      exact hj (by simp [Tg.slots, z])
  | tup ts =>
    obtain ⟨rfl, rp⟩ := Own.nilR (show Own K w1.G w1.H .sh d v R from o)
    replace ok : (ts.all fun i => shs[i]? == some .sh) = true := ok
    have hs : ∀ i ∈ ts, shs[i]? = some .sh := fun i hi => by
      have := List.all_eq_true.mp ok i hi
      simpa using this
    cases d with
    | tup ds =>
      replace e : bindL ts ds w1.S = some S2 := e
      cases rp with
      | @tup a _ vs hT rr =>
        refine ⟨a, vs, rfl, sqT_mono k.sub hT, ?_, bindL_ok hs hm k t rr e h⟩
        rw [bindL_len e, rr.length]
    | _ => cases e
/-! ### statements -/
def rdS (K : Fg) (shs : List Sh) (ret : Sh) (mu sg : List Nat) (run : Env0D → Res (Option D)) : TS := fun D σ H => ∃ (w : Wd) (r : Option _) (S' : Env0D), w.H = H ∧ StOk K shs σ w ∧ run w.S = .ok r S' ∧ (match r with
  | none => ∀ (σ' : L2.St) (w' : Wd), w'.S = S' → StOk K shs σ' w' → Stp (fun i => i ∈ mu) w w' [] → (∀ i, i ∉ sg → σ'[i]? = σ[i]?) → D.nx σ' w'.H
  | some d => ∀ (σ' : L2.St) (w' : Wd) (v : V) (R : List Addr), w'.S = S' → StOk K shs σ' w' → Stp (fun i => i ∈ mu) w w' R → (∀ i, i ∉ sg → σ'[i]? = σ[i]?) → Own K w'.G w'.H ret d v R → D.rt v w'.H)
theorem psI {st : Stmt} {t t' : TS} (h : PS X st t) (i : ∀ D σ H, t' D σ H → t D σ H) : PS X st t' := ⟨fun pins s σ H D I q => h.run pins s σ H D I (i D σ H q)⟩
theorem pssI {st : List Stmt} {t t' : TS} (h : PSs X st t) (i : ∀ D σ H, t' D σ H → t D σ H) : PSs X st t' := ⟨fun pins s σ H D I q => h.run pins s σ H D I (i D σ H q)⟩
variable {ret : Sh}
theorem s_asg {te : Expr} {e : Expr} {tg : Tg} {c : CE} (he : PE X e (rdE X.K Γ shs c (tgSh shs tg))) (hg : PS X (.Assign [te] e pos) (tAsg (rdE X.K Γ shs c (tgSh shs tg)) (gRd X.K tg))) (ok : tgOk shs tg = true) :
    PS X (.Assign [te] e pos) (rdS X.K shs ret (CS.asg tg c).mu (CS.asg tg c).sg ((CS.asg tg c).run Γ)) := by
  refine psI hg fun D σ H q => ?_
  obtain ⟨w, r, S', rfl, k, er, h⟩ := q
  unfold CS.run at er
  obtain ⟨d, S1, e1, er⟩ := Res.bind_ok er
  split at er
  · rename_i S2 eb
    cases er
    refine ⟨w, d, S1, rfl, k, e1, fun w1 v R hs k1 t1 o => ?_⟩
    subst hs
    have t2 : Stp (fun i => i ∈ (CS.asg tg c).mu) w w1 R := t1.mono fun i hi => by unfold CS.mu; exact List.mem_append_right _ hi
    refine bind_ok (w := w) ok (fun i hi => by unfold CS.mu; exact List.mem_append_left _ hi) k1 t2 o eb fun σ' w' h1 h2 h3 h4 => h σ' w' h1 h2 h3 fun i hi => h4 i fun z => hi (by unfold CS.sg; exact z)
  · cases er
theorem s_expr {e : Expr} {c : CE} {s : Sh} (he : PE X e (rdE X.K Γ shs c s)) (hs : swapsWith e none pos.line X.env = pure false) (hok : s.ok = true) : PS X (.Expr e pos) (rdS X.K shs ret (CS.expr c).mu (CS.expr c).sg ((CS.expr c).run Γ)) := by
  refine psI (ps_expr (e_melt he hok) hs) fun D σ H q => ?_
  obtain ⟨w, r, S', rfl, k, er, h⟩ := q
  unfold CS.run at er
  obtain ⟨d, S1, e1, er⟩ := Res.bind_ok er
  cases er
  refine ⟨w, d, _, rfl, k, e1, fun w1 v R hs k1 t1 o => ?_⟩
  obtain ⟨rfl, _⟩ := o.nilR
  exact h σ w1 hs k1 (t1.mono fun i hi => by unfold CS.mu; exact hi) fun _ _ => rfl
theorem s_ret {e : Expr} {c : CE} (he : PE X e (rdE X.K Γ shs c ret)) : PS X (.Return (some e) pos) (rdS X.K shs ret (CS.ret c).mu (CS.ret c).sg ((CS.ret c).run Γ)) := by
  refine psI (ps_ret he) fun D σ H q => ?_
  obtain ⟨w, r, S', rfl, k, er, h⟩ := q
  unfold CS.run at er
  obtain ⟨d, S1, e1, er⟩ := Res.bind_ok er
  cases er
  exact ⟨w, d, _, rfl, k, e1, fun w1 v R hs k1 t1 o => h σ w1 v R hs k1 (t1.mono fun i hi => by unfold CS.mu; exact hi) (fun _ _ => rfl) o⟩
theorem s_pass : PS X (.Pass pos) (rdS X.K shs ret CS.pass.mu CS.pass.sg (CS.pass.run Γ)) := by
  refine psI ps_pass fun D σ H q => ?_
  obtain ⟨w, r, S', rfl, k, er, h⟩ := q
  unfold CS.run at er
  cases er
  exact h σ w rfl k .refl fun _ _ => rfl
theorem b_nil : PSs X [] (rdS X.K shs ret CB.nil.mu CB.nil.sg (CB.nil.run Γ)) := by
  refine pssI pss_nil fun D σ H q => ?_
  obtain ⟨w, r, S', rfl, k, er, h⟩ := q
  unfold CB.run at er
  cases er
  exact h σ w rfl k .refl fun _ _ => rfl
theorem b_cons {st : Stmt} {rest : List Stmt} {s : CS} {r : CB} (h1 : PS X st (rdS X.K shs ret s.mu s.sg (s.run Γ))) (h2 : PSs X rest (rdS X.K shs ret r.mu r.sg (r.run Γ))) : PSs X (st :: rest) (rdS X.K shs ret (CB.cons s r).mu (CB.cons s r).sg ((CB.cons s r).run Γ)) := by
  refine pssI (pss_cons h1 h2) fun D σ H q => ?_
  obtain ⟨w, x, S', rfl, k, er, h⟩ := q
  unfold CB.run at er
  obtain ⟨y, S1, e1, er⟩ := Res.bind_ok er
  cases y with
  | none =>
    refine ⟨w, none, S1, rfl, k, e1, fun σ1 w1 hs k1 t1 g1 => ?_⟩
    subst hs
    refine ⟨w1, x, S', rfl, k1, er, ?_⟩
    have tr : ∀ {w2 R}, Stp (fun i => i ∈ r.mu) w1 w2 R → Stp (fun i => i ∈ (CB.cons s r).mu) w w2 R := fun t2 => Stp.trans (R1 := []) k k1 (t1.mono fun i hi => by unfold CB.mu; exact List.mem_append_left _ hi) (t2.mono fun i hi => by unfold CB.mu; exact List.mem_append_right _ hi)
    have sg : ∀ {σ2 : L2.St}, (∀ i, i ∉ r.sg → σ2[i]? = σ1[i]?) → ∀ i, i ∉ (CB.cons s r).sg → σ2[i]? = σ[i]? := fun g2 i hi => by
      unfold CB.sg at hi
      rw [g2 i fun z => hi (List.mem_append_right _ z), g1 i fun z => hi (List.mem_append_left _ z)]
    cases x with
    | none => exact fun σ2 w2 h2 k2 t2 g2 => h σ2 w2 h2 k2 (tr t2) (sg g2)
    | some d => exact fun σ2 w2 v R h2 k2 t2 g2 o => h σ2 w2 v R h2 k2 (tr t2) (sg g2) o
  | some d =>
    cases er
    refine ⟨w, some d, _, rfl, k, e1, fun σ1 w1 v R hs k1 t1 g1 o => ?_⟩
    exact h σ1 w1 v R hs k1 (t1.mono fun i hi => by unfold CB.mu; exact List.mem_append_left _ hi) (fun i hi => g1 i fun z => hi (by unfold CB.sg; exact List.mem_append_left _ z)) o
theorem s_if {c : Expr} {a b : List Stmt} {cc : CE} {ca cb : CB} (hc : PT X c (rdT X.K Γ shs cc)) (ha : PSs X a (rdS X.K shs ret ca.mu ca.sg (ca.run Γ))) (hb : PSs X b (rdS X.K shs ret cb.mu cb.sg (cb.run Γ))) :
    PS X (.If c a b pos) (rdS X.K shs ret (CS.ite cc ca cb).mu (CS.ite cc ca cb).sg ((CS.ite cc ca cb).run Γ)) := by
  refine psI (ps_if hc ha hb) fun D σ H q => ?_
  obtain ⟨w, x, S', rfl, k, er, h⟩ := q
  unfold CS.run at er
  obtain ⟨d, S1, e1, er⟩ := Res.bind_ok er
  split at er
  · refine ⟨w, true, _, rfl, k, e1, fun w1 hs k1 t1 => iteT ?_⟩
    subst hs
    refine ⟨w1, x, S', rfl, k1, er, ?_⟩
    have tr : ∀ {w2 R}, Stp (fun i => i ∈ ca.mu) w1 w2 R → Stp (fun i => i ∈ (CS.ite cc ca cb).mu) w w2 R := fun t2 => Stp.trans (R1 := []) k k1 (t1.mono fun i hi => by unfold CS.mu; exact List.mem_append_left _ hi) (t2.mono fun i hi => by unfold CS.mu; exact List.mem_append_right _ (List.mem_append_left _ hi))
    have sg : ∀ {σ2 : L2.St}, (∀ i, i ∉ ca.sg → σ2[i]? = σ[i]?) → ∀ i, i ∉ (CS.ite cc ca cb).sg → σ2[i]? = σ[i]? := fun g2 i hi => g2 i fun z => hi (by unfold CS.sg; exact List.mem_append_left _ z)
    cases x with
    | none => exact fun σ2 w2 h2 k2 t2 g2 => h σ2 w2 h2 k2 (tr t2) (sg g2)
    | some d => exact fun σ2 w2 v R h2 k2 t2 g2 o => h σ2 w2 v R h2 k2 (tr t2) (sg g2) o
  · refine ⟨w, false, _, rfl, k, e1, fun w1 hs k1 t1 => iteF ?_⟩
    subst hs
    refine ⟨w1, x, S', rfl, k1, er, ?_⟩
    have tr : ∀ {w2 R}, Stp (fun i => i ∈ cb.mu) w1 w2 R → Stp (fun i => i ∈ (CS.ite cc ca cb).mu) w w2 R := fun t2 => Stp.trans (R1 := []) k k1 (t1.mono fun i hi => by unfold CS.mu; exact List.mem_append_left _ hi) (t2.mono fun i hi => by unfold CS.mu; exact List.mem_append_right _ (List.mem_append_right _ hi))
    have sg : ∀ {σ2 : L2.St}, (∀ i, i ∉ cb.sg → σ2[i]? = σ[i]?) → ∀ i, i ∉ (CS.ite cc ca cb).sg → σ2[i]? = σ[i]? := fun g2 i hi => g2 i fun z => hi (by unfold CS.sg; exact List.mem_append_right _ z)
    cases x with
    | none => exact fun σ2 w2 h2 k2 t2 g2 => h σ2 w2 h2 k2 (tr t2) (sg g2)
    | some d => exact fun σ2 w2 v R h2 k2 t2 g2 o => h σ2 w2 v R h2 k2 (tr t2) (sg g2) o
  · cases er
/-! ### for -/
/-- the slots that are walked stay as they are -/
def forOk (tg : Tg) (it : CL) (body : CB) : Bool := it.slots.all fun i => !(tg.slots.contains i) && !(body.mu.contains i)
theorem s_for {te iter : Expr} {body : List Stmt} {tg : Tg} {wk : Wk} {it : CL} {cb : CB} {wi : TI} {fz : Bool} (hx : X.xe = fun _ _ => False) (hc : X.calm = true) (hi : PI X te iter wi) (hw : WkRd X.K Γ shs fz wi wk it) (hg : PG X te (gRd X.K tg)) (hsh : tgSh shs tg = .sh) (ok : tgOk shs tg = true)
    (hb : PSs X body (rdS X.K shs ret cb.mu cb.sg (cb.run Γ))) (wf : it.wf = true) (oks : okSlots fz shs it = true) (fo : forOk tg it cb = true) (hst : ∀ x, foldedSetIterable iter X.env x = pure x) :
    PS X (.For te iter body [] pos) (rdS X.K shs ret (CS.for_ tg wk it cb).mu (CS.for_ tg wk it cb).sg ((CS.for_ tg wk it cb).run Γ)) := by
  refine psI (ps_for (by rw [hx]; exact PassesOwn.never) hc hi hg hb hst) fun D σ H q => ?_
  obtain ⟨w, x, S', rfl, k, er, h⟩ := q
  unfold CS.run at er
  obtain ⟨ds, S1, e1, er⟩ := Res.bind_ok er
  split at er
  · rename_i xs ei
    refine hw wf oks k e1 ei fun w1 J P hs1 k1 t1 it1 hP => ?_
    subst hs1
    let f : Ev.D → Env0D → Res (Option Ev.D) := fun x S2 => match bindTg tg x S2 with
      | some S3 => cb.run Γ S3
      | none => .bad
    have er' : walk f xs w1.S = .ok x S' := er
    have muL : ∀ i, i ∈ it.mu → i ∈ (CS.for_ tg wk it cb).mu := fun i hi => by unfold CS.mu; exact List.mem_append_left _ hi
    have muT : ∀ i, i ∈ tg.slots → i ∈ (CS.for_ tg wk it cb).mu := fun i hi => by unfold CS.mu; exact List.mem_append_right _ (List.mem_append_left _ hi)
    have muB : ∀ i, i ∈ cb.mu → i ∈ (CS.for_ tg wk it cb).mu := fun i hi => by unfold CS.mu; exact List.mem_append_right _ (List.mem_append_right _ hi)
    -- the loop's own step, from w1 on: tg and body alone
    refine ⟨fun i m σ2 H2 => m = xs.length - i ∧ i ≤ xs.length ∧ ∃ w2 : Wd, w2.H = H2 ∧ StOk X.K shs σ2 w2 ∧ Stp (fun j => j ∈ tg.slots ∨ j ∈ cb.mu) w1 w2 [] ∧ (∀ j, j ∉ (CS.for_ tg wk it cb).sg → σ2[j]? = σ[j]?) ∧ walk f (xs.drop i) w2.S = .ok x S',
      ⟨xs.length, by simp, Nat.zero_le _, w1, rfl, k1, .refl, fun _ _ => rfl, by simpa using er'⟩, ?_⟩
    rintro i m σ2 H2 ⟨rfl, hi, w2, rfl, k2, t2, g2, e2⟩
    have P2 : P w2.H := hP w2.H (t2.grow.trans k2.sub) fun j hj a ha => by
      have fj := List.all_eq_true.mp fo j hj
      simp only [Bool.and_eq_true, Bool.not_eq_true', List.contains_eq_mem, decide_eq_false_iff_not] at fj
      exact (t2.un j fun z => z.elim fj.1 fj.2).2.2 a ha
    have full : ∀ {w3 : Wd} {R}, Stp (fun j => j ∈ tg.slots ∨ j ∈ cb.mu) w1 w3 R → Stp (fun j => j ∈ (CS.for_ tg wk it cb).mu) w w3 R := fun t3 => Stp.trans (R1 := []) k k1 (t1.mono muL) (t3.mono fun j hj => hj.elim (muT j) (muB j))
    by_cases hlt : i < xs.length
    · refine .inr ⟨it1.go i w2.H hlt P2, fun σ' H' => ∃ w3 : Wd, w3.H = H' ∧ StOk X.K shs σ' w3 ∧ Stp (fun j => j ∈ tg.slots ∨ j ∈ cb.mu) w1 w3 [] ∧ (∀ j, j ∉ (CS.for_ tg wk it cb).sg → σ'[j]? = σ[j]?) ∧ walk f (xs.drop (i + 1)) w3.S = .ok x S', fun σ' H' ⟨w3, a, b, c, g, d⟩ => ⟨xs.length - (i + 1), by omega, rfl, hlt, w3, a, b, c, g, d⟩, fun v H' y => ?_⟩
      have hd : xs[i]? = some xs[i] := List.getElem?_eq_getElem hlt
      obtain ⟨sm, R, s, sok, fr, o⟩ := it1.yld i w2.H v H' _ P2 hd y
      have k3 := k2.ext sm
      have t3 : Stp (fun j => j ∈ tg.slots ∨ j ∈ cb.mu) w1 { w2 with H := H' } R := Stp.trans (R1 := []) k1 k2 t2 (Stp.ext k2 sm fr)
      have k4 : StOk X.K shs σ2 (meltW { w2 with H := H' } R) := k3.melt fun a ha j => (t3.off a ha).2.2 j
      have t4 : Stp (fun j => j ∈ tg.slots ∨ j ∈ cb.mu) w1 (meltW { w2 with H := H' } R) [] := t3.melt k3 (fun a ha => ha) fun a ha => by cases ha
      have o4 : Own X.K (meltW { w2 with H := H' } R).G H' .sh xs[i] v [] := .sh ((o.frame (t2.grow) (fun _ _ => rfl)).melt (meltW_grow k3) sok fun a ha => meltW_in ha)
      rw [List.drop_eq_getElem_cons hlt] at e2
      unfold walk at e2
      obtain ⟨r, S3, e3, e2⟩ := Res.bind_ok e2
      have e3 : (match bindTg tg xs[i] w2.S with
        | some S3 => cb.run Γ S3
        | none => .bad) = Res.ok r S3 := e3
      split at e3
      · rename_i Sb eb
        refine bind_ok (w := w1) ok (fun j hj => .inl hj) k4 t4 (by rw [hsh]; exact o4) eb fun σ5 w5 hs5 k5 t5 g5 => ?_
        subst hs5
        refine ⟨w5, r, S3, rfl, k5, e3, ?_⟩
        have sgl : ∀ {σ6 : L2.St}, (∀ j, j ∉ cb.sg → σ6[j]? = σ5[j]?) → ∀ j, j ∉ (CS.for_ tg wk it cb).sg → σ6[j]? = σ[j]? := fun g6 j hj => by
          unfold CS.sg at hj
          rw [g6 j fun z => hj (List.mem_append_right _ z), g5 j fun z => hj (List.mem_append_left _ z), g2 j (by unfold CS.sg; exact hj)]
        cases r with
        | none =>
          refine fun σ6 w6 hs6 k6 t6 g6 => ⟨w6, rfl, k6, Stp.trans (R1 := []) k1 k5 t5 (t6.mono fun j hj => .inr hj), sgl g6, ?_⟩
          rw [hs6]; exact e2
        | some d =>
          cases e2
          exact fun σ6 w6 v6 R6 hs6 k6 t6 g6 o6 => h σ6 w6 v6 R6 hs6 k6 (full (Stp.trans (R1 := []) k1 k5 t5 (t6.mono fun j hj => .inr hj))) (sgl g6) o6
      · cases e3
    · have ie : i = xs.length := by omega
      subst ie
      rw [List.drop_length] at e2
      unfold walk at e2
      cases e2
      exact .inl ⟨it1.stop w2.H P2, h σ2 w2 rfl k2 (full t2) g2⟩
  · cases er
end
end Ev

/-! EvI: changes of one's own lists; calls of defs. -/
namespace Ev
open PySem PySem.Spec PyProof.Rows L2
section
variable {X : Cx} {Γ : List Fn} {shs : List Sh} {pos : Pos} {ret : Sh}
theorem lt_of_getElem? {α : Type} {l : List α} {i : Nat} {a : α} (h : l[i]? = some a) : i < l.length := by
  rcases Nat.lt_or_ge i l.length with z | z
  · exact z
  · rw [List.getElem?_eq_none z] at h; cases h
/-- an own list's content is another one -/
def setW (w : Wd) (i : Nat) (p : Addr) (ds : List D) (vs : List V) : Wd := { w with S := w.S.set i (some (.lst ds)), H := upd w.H p (.lst vs) }
theorem setW_ok {K : Fg} {σ : L2.St} {w : Wd} {i : Nat} {p : Addr} {ds ds' : List D} {vs' : List V} (k : StOk K shs σ w) (hs : shs[i]? = some (.lst .sh)) (hS : w.S[i]? = some (some (.lst ds))) (hσ : σ[i]? = some (some (.ref p))) (hF : w.F i = [p]) (r : RepL K w.G ds' vs') :
    StOk K shs σ (setW w i p ds' vs') ∧ Stp (fun j => j ∈ [i]) w (setW w i p ds' vs') [] := by
  have hp : p ∈ w.F i := by rw [hF]; exact List.mem_cons_self
  have hG : w.G p = none := k.off i p hp
  have hl := lt_of_getElem? hS
  refine ⟨⟨by simp [setW, k.len], k.lenσ, fun j d s h1 h2 => ?_, fun j h => ?_, fun a o e => ?_, k.off, k.dis⟩, ⟨fun a ha => (by cases ha), Same.refl _, fun a o h n => ?_, fun a h => ?_, fun j n => ?_⟩⟩
  · have h1 : (w.S.set i (some (.lst ds')))[j]? = some (some d) := h1
    by_cases hj : j = i
    · subst hj
      rw [List.getElem?_set_self hl] at h1
      cases h1
      rw [hs] at h2
      cases h2
      refine ⟨_, hσ, ?_⟩
      show Own K w.G (upd w.H p (.lst vs')) (.lst .sh) (.lst ds') (.ref p) (w.F j)
      rw [hF]
      exact .lst (F := []) upd_same (.of r) (by simp)
    · rw [List.getElem?_set_ne (Ne.symm hj)] at h1
      obtain ⟨v, hv, o⟩ := k.own j d s h1 h2
      exact ⟨v, hv, o.frame (Same.refl _) fun a ha => upd_ne fun z => hj (k.dis j i a ha (z ▸ hp))⟩
  · by_cases hj : j = i
    · subst hj
      exact absurd (List.getElem?_set_self hl) (h (.lst ds'))
    · refine k.emp j fun d z => h d ?_
      show (w.S.set i _)[j]? = _
      rw [List.getElem?_set_ne (Ne.symm hj)]; exact z
  · show upd w.H p (.lst vs') a = some o
    rw [upd_ne fun z => by rw [z] at e; rw [show w.G p = some o from e] at hG; cases hG]
    exact k.sub a o e
  · show upd w.H p (.lst vs') a = some o
    rw [upd_ne fun z => n i (by rw [z]; exact hp)]; exact h
  · rcases h with h | h | h
    · exact .inl h
    · exact .inr (.inl h)
    · cases h
  · have hj : j ≠ i := fun z => n (by simp [z])
    exact ⟨List.getElem?_set_ne (Ne.symm hj), rfl, fun a ha => upd_ne fun z => hj (k.dis j i a ha (z ▸ hp))⟩
/-- the own list in a slot -/
theorem own_list {K : Fg} {σ : L2.St} {w : Wd} {i : Nat} {ds : List D} (k : StOk K shs σ w) (hs : shs[i]? = some (.lst .sh)) (hS : w.S[i]? = some (some (.lst ds))) : ∃ p vs, σ[i]? = some (some (.ref p)) ∧ w.H p = some (.lst vs) ∧ RepL K w.G ds vs ∧ w.F i = [p] := by
  obtain ⟨v, hv, o⟩ := k.own i _ _ hS hs
  generalize hF : w.F i = Fi at o
  cases o with
  | lst h r n =>
    obtain ⟨e, rr⟩ := OwnL.sh r
    subst e
    exact ⟨_, _, hv, h, rr, rfl⟩
/-- x[k] = e -/
theorem s_seti {xe ke e : Expr} {i : Nat} {kc c : CE} {p2 : Pos} (hx : PE X xe (tVar i)) (hk : PE X ke (rdE X.K Γ shs kc .sh)) (he : PE X e (rdE X.K Γ shs c .sh)) (hs : shs[i]? = some (.lst .sh))
    (hs1 : swapsWithSole [.Subscript xe ke p2] e pos.line X.env = pure false) (hs2 : swappedStores [.Subscript xe ke p2] e X.env = pure none) (h1 : (assignEach [.Subscript xe ke p2] X.env).map (·.2) = [assign (.Subscript xe ke p2) X.env])
    (ha : ∀ v, assign (.Subscript xe ke p2) X.env v = (do
      let ov ← holding [v] (eval xe X.env)
      let iv ← holding [v, ov] (eval ke X.env)
      standAt p2
      holding [v, ov, iv] (setItem ov iv v)
      release [v, ov, iv] [])) : PS X (.Assign [.Subscript xe ke p2] e pos) (rdS X.K shs ret (CS.seti i kc c).mu (CS.seti i kc c).sg ((CS.seti i kc c).run Γ)) := by
  refine psI (ps_asg he (pg_sub hx hk set_list ha) hs1 hs2 h1) fun Dn σ H q => ?_
  obtain ⟨w, r, S', rfl, k, er, h⟩ := q
  unfold CS.run at er
  obtain ⟨d, S1, e1, er⟩ := Res.bind_ok er
  split at er
  · rename_i xs0 hx0
    obtain ⟨kd, S2, e2, er⟩ := Res.bind_ok er
    split at er
    · rename_i xs hx2
      split at er
      · rename_i kk
        split at er
        · rename_i j hj
          cases er
          refine ⟨w, d, S1, rfl, k, e1, fun w1 v R hs1 k1 t1 o => ?_⟩
          obtain ⟨rfl, rp⟩ := o.nilR
          subst hs1
          obtain ⟨p, vs0, hσ, _, _, _⟩ := own_list k1 hs hx0
          refine ⟨.ref p, hσ, w1, .int kk, S2, rfl, k1, e2, fun w2 u R2 hs2 k2 t2 o2 => ?_⟩
          obtain ⟨rfl, rp2⟩ := o2.nilR
          subst hs2
          cases rp2
          obtain ⟨p', vs, hσ', hH, rr, hF⟩ := own_list k2 hs hx2
          rw [hσ] at hσ'
          cases hσ'
          obtain ⟨k3, t3⟩ := setW_ok k2 hs hx2 hσ hF (rr.set (rp.mono t2.grow) j)
          refine ⟨p, vs, kk, j, rfl, rfl, hH, by rw [← rr.length]; exact hj, ?_⟩
          refine h σ _ rfl k3 ?_ fun _ _ => rfl
          have t12 := Stp.trans (R1 := []) k k1 (t1.mono (mu' := fun l => l ∈ (CS.seti i kc c).mu) fun l hl => by unfold CS.mu; exact List.mem_cons_of_mem _ (List.mem_append_left _ hl)) (t2.mono fun l hl => by unfold CS.mu; exact List.mem_cons_of_mem _ (List.mem_append_right _ hl))
          exact Stp.trans (R1 := []) k k2 t12 (t3.mono fun l hl => by rw [List.mem_singleton] at hl; unfold CS.mu; rw [hl]; exact List.mem_cons_self)
        · cases er
      · cases er
    · cases er
  · cases er
/-! ### methods that change a list -/
/-- what a method asks by values -/
def MuRd (K : Fg) (m : Mu) (r : V → List V → Hp → VK → Prop) : Prop := ∀ {G H : Hp} {p : Addr} {xs ys ds : List D} {vs us : List V} {d : D} {Q : VK}, Same G H → H p = some (.lst vs) → RepL K G xs vs → RepL K G ds us → runMu m xs ds = some (d, ys) →
  (∀ (v : V) (vs' : List V), Rep K G d v → RepL K G ys vs' → Q v (upd H p (.lst vs'))) → r (.ref p) us H Q
theorem mu_append {K : Fg} : MuRd K .append rAppend := by
  intro G H p xs ys ds vs us d Q e hp r ru hm q
  replace hm : mAppend xs ds = some (d, ys) := hm
  unfold mAppend at hm
  split at hm
  · split at hm
    · rename_i hz
      cases hm
      cases ru with
      | cons h t =>
        cases t
        refine ⟨p, vs, _, rfl, rfl, hp, ?_, q _ _ .non (r.append (.cons h .nil))⟩
        rw [← r.length]
        have h1 := of_decide_eq_true hz
        have h2 : sizeLine = 16777216 := sizeLine_eq
        omega
    · cases hm
  · cases hm
theorem mu_pop {K : Fg} : MuRd K .pop rPop := by
  intro G H p xs ys ds vs us d Q e hp r ru hm q
  replace hm : mPop xs ds = some (d, ys) := hm
  unfold mPop at hm
  split at hm
  · split at hm
    · rename_i d' hd
      cases hm
      cases ru
      obtain ⟨v, hv, rv⟩ := r.get hd
      refine ⟨p, vs, v, rfl, rfl, hp, by rw [← r.length]; exact hv, q v _ rv ?_⟩
      rw [List.dropLast_eq_take, List.dropLast_eq_take, ← r.length]
      exact r.take _
    · cases hm
  · cases hm
theorem RepL.erase {K : Fg} {G : Hp} : ∀ {ds : List D} {vs : List V} (k : Nat), RepL K G ds vs → RepL K G (ds.eraseIdx k) (vs.eraseIdx k)
  | _, _, _, .nil => .nil
  | _, _, 0, .cons _ r => r
  | _, _, k + 1, .cons h r => .cons h (RepL.erase k r)
theorem mu_popAt {K : Fg} : MuRd K .popAt rPopAt := by
  intro G H p xs ys ds vs us d Q e hp r ru hm q
  replace hm : mPopAt xs ds = some (d, ys) := hm
  unfold mPopAt at hm
  split at hm
  · rename_i i
    split at hm
    · cases hm
    rename_i hz
    simp only [Bool.not_eq_true, Bool.not_eq_false', Bool.not_eq_eq_eq_not, Bool.not_true, Bool.not_false] at hz
    split at hm
    · rename_i k hk
      split at hm
      · rename_i d' hd
        cases hm
        cases ru with
        | cons h t =>
          cases t
          cases h
          obtain ⟨v, hv, rv⟩ := r.get hd
          obtain ⟨h1, h2, h3, h4⟩ := ixN_seq hk
          have hz' : sizeOk xs.length = true := by simpa using hz
          have h5 := of_decide_eq_true hz'
          exact ⟨p, vs, i, k, v, rfl, rfl, hp, by omega, by omega, by rw [← r.length]; exact h1, hv, q v _ rv (r.erase k)⟩
      · cases hm
    · cases hm
  · cases hm
theorem RepL.reverse {K : Fg} {G : Hp} : ∀ {ds : List D} {vs : List V}, RepL K G ds vs → RepL K G ds.reverse vs.reverse
  | _, _, .nil => .nil
  | _, _, .cons h r => by rw [List.reverse_cons, List.reverse_cons]; exact (RepL.reverse r).append (.cons h .nil)
theorem mu_rev {K : Fg} : MuRd K .rev rReverse := by
  intro G H p xs ys ds vs us d Q e hp r ru hm q
  replace hm : mRev xs ds = some (d, ys) := hm
  unfold mRev at hm
  split at hm
  · cases hm
    cases ru
    exact ⟨p, vs, rfl, rfl, hp, q _ _ .non r.reverse⟩
  · cases hm
theorem mu_clear {K : Fg} : MuRd K .clear rClear := by
  intro G H p xs ys ds vs us d Q e hp r ru hm q
  replace hm : mClear xs ds = some (d, ys) := hm
  unfold mClear at hm
  split at hm
  · cases hm
    cases ru
    exact ⟨p, vs, rfl, rfl, hp, q _ _ .non .nil⟩
  · cases hm
/-- the change itself -/
theorem mut_ok {K : Fg} {m : Mu} {i : Nat} {as : CL} {r : V → List V → Hp → VK → Prop} {σ : L2.St} {H : Hp} {Q : VK} (hr : MuRd K m r) (hs : shs[i]? = some (.lst .sh)) (wf : as.wf = true) (hc : allCons as = true) (h : rdE K Γ shs (.mut m i as) .sh σ H Q) :
    ∃ p, σ[i]? = some (some (.ref p)) ∧ (∃ vs, H p = some (.lst vs)) ∧ tArgs K Γ shs as σ H fun us H2 => r (.ref p) us H2 Q := by
  obtain ⟨w, d, S', rfl, k, er, h⟩ := h
  unfold CE.run at er
  split at er
  · rename_i xs0 hx0
    obtain ⟨p, vs0, hσ, hH0, _, _⟩ := own_list k hs hx0
    refine ⟨p, hσ, ⟨vs0, hH0⟩, ?_⟩
    obtain ⟨ds, S1, e1, er⟩ := Res.bind_ok er
    split at er
    · rename_i xs hx
      split at er
      · rename_i d' ys hm
        cases er
        refine args_ok as wf k e1 fun w1 us hs1 k1 t1 a1 => ?_
        subst hs1
        obtain ⟨p', vs, hσ', hH, rr, hF⟩ := own_list k1 hs hx
        rw [hσ] at hσ'
        cases hσ'
        refine hr k1.sub hH rr (repL_of a1 hc) hm fun v vs' rv rr' => ?_
        obtain ⟨k3, t3⟩ := setW_ok k1 hs hx hσ hF rr'
        refine h _ v [] rfl k3 ?_ (.sh rv)
        exact Stp.trans (R1 := []) k k1 (t1.mono fun l hl => by unfold CE.mu; exact List.mem_cons_of_mem _ hl) (t3.mono fun l hl => by rw [List.mem_singleton] at hl; unfold CE.mu; rw [hl]; exact List.mem_cons_self)
      · cases er
    · cases er
  · cases er
theorem e_mut1 {o a : Expr} {m : Mu} {i : Nat} {as : CL} {r : V → List V → Hp → VK → Prop} {id : String} {name : Str} {apos : Pos} (ho : PE X o (tVar i)) (slot : Slot "list" name id) (hty : typeOf (.builtin id) = pure (.type "method_descriptor")) (hm : MtR X id r) (hr : MuRd X.K m r)
    (hs : shs[i]? = some (.lst .sh)) (ha : PAg X Γ shs [a] as) (hc : allCons as = true) (wf : as.wf = true) (hpo : plainObj o = true) (hl : (apos.endLine == pos.line) = true) (hf : (backTo pos (starEach [a] X.env)).all (fun x => !x.1) = true) :
    PE X (.Call (.Attribute o name apos) [a] [] pos) (rdE X.K Γ shs (.mut m i as) .sh) := by
  refine peI (pe_bm PySem.F.plainAttrs_list slot hty hm ho ha.pa (baseOk hpo) ?_ hl ha.star (by rw [show starEach [] X.env = [] from rfl]; rfl)) fun σ H Q h => ?_
  · rw [hf]; rfl
  · obtain ⟨p, hσ, ⟨vs, hH⟩, q⟩ := mut_ok hr hs wf hc h
    exact ⟨.ref p, hσ, .inl ⟨rfl, vs, .inl (.inl hH)⟩, q⟩
theorem e_mut0 {o : Expr} {m : Mu} {i : Nat} {r : V → List V → Hp → VK → Prop} {id : String} {name : Str} {apos : Pos} (ho : PE X o (tVar i)) (slot : Slot "list" name id) (hty : typeOf (.builtin id) = pure (.type "method_descriptor")) (hm : MtR X id r) (hr : MuRd X.K m r)
    (hs : shs[i]? = some (.lst .sh)) (hpo : plainObj o = true) (hl : (apos.endLine == pos.line) = true) : PE X (.Call (.Attribute o name apos) [] [] pos) (rdE X.K Γ shs (.mut m i .nil) .sh) := by
  refine peI (pe_bm0 PySem.F.plainAttrs_list slot hty hm ho (baseOk hpo) hl) fun σ H Q h => ?_
  obtain ⟨p, hσ, ⟨vs, hH⟩, q⟩ := mut_ok hr hs rfl rfl h
  exact ⟨.ref p, hσ, .inl ⟨rfl, vs, .inl (.inl hH)⟩, q⟩
end
end Ev

/-! EvJ: defs: what they promise, their calls. -/
namespace Ev
open PySem PySem.Spec PyProof.Rows L2
/-- a def's signature: its parameters, what they are (shared; one's own, lent for the call), what it hands back -/
structure Sg where
  name : Str
  ps : List Str
  ms : List Sh
  ret : Sh
def ioSlot (g : Sg) (i : Nat) : Prop := g.ms[i]? ≠ some .sh
/-- the promise -/
def spOf (K : Fg) (g : Sg) (f : Fn) : Sp := fun vs H Q E => ∃ (w : Wd) (ds : List D) (d : D) (outs : List D), w.H = H ∧ w.S = ds.map some ∧ vs.length = g.ps.length ∧ StOk K g.ms (vs.map some) w ∧ f.run ds = some (d, outs) ∧ outs.length = ds.length ∧
  ∀ (w' : Wd) (v : V) (R : List Addr), w'.S = outs.map some → StOk K g.ms (vs.map some) w' → Stp (ioSlot g) w w' R → Own K w'.G w'.H g.ret d v R → Q v w'.H
/-- which slot the k-th argument is -/
def CL.slotOf : CL → Nat → Option Nat
  | .nil, _ => none
  | .cons _ _, 0 => none
  | .slot i _, 0 => some i
  | .cons _ r, k + 1 => r.slotOf k
  | .slot _ r, k + 1 => r.slotOf k
def CL.distinct : CL → Bool
  | .nil => true
  | .cons _ r => r.distinct
  | .slot i r => (r.argOf i).isNone && r.distinct
/-- the arguments fit the parameters -/
def CL.fits (shs : List Sh) : CL → List Sh → Bool
  | .nil, [] => true
  | .cons _ r, .sh :: ms => r.fits shs ms
  | .slot i r, s :: ms => (shs[i]? == some s) && (s != .sh) && r.fits shs ms
  | _, _ => false
section
variable {K : Fg} {Γ : List Fn} {shs : List Sh}
theorem argOf_slotOf : ∀ {as : CL} {i k : Nat}, as.argOf i = some k → as.slotOf k = some i
  | .nil, _, _, h => by cases h
  | .cons c r, i, k, h => by
    unfold CL.argOf at h
    obtain ⟨k', h1, rfl⟩ := Option.map_eq_some_iff.mp h
    exact argOf_slotOf (as := r) h1
  | .slot j r, i, k, h => by
    unfold CL.argOf at h
    split at h
    · cases h
      rename_i e; subst e; rfl
    · obtain ⟨k', h1, rfl⟩ := Option.map_eq_some_iff.mp h
      exact argOf_slotOf (as := r) h1
theorem slotOf_argOf : ∀ {as : CL} {i k : Nat}, as.distinct = true → as.slotOf k = some i → as.argOf i = some k
  | .nil, _, _, _, h => by cases h
  | .cons c r, i, 0, _, h => by cases h
  | .cons c r, i, k + 1, d, h => by
    unfold CL.argOf
    rw [slotOf_argOf (as := r) (by unfold CL.distinct at d; exact d) h]; rfl
  | .slot j r, i, 0, d, h => by
    have : j = i := Option.some.inj h
    unfold CL.argOf
    rw [if_pos this]
  | .slot j r, i, k + 1, d, h => by
    unfold CL.distinct at d
    obtain ⟨d1, d2⟩ := Bool.and_eq_true_iff.mp d
    have h1 := slotOf_argOf (as := r) d2 h
    unfold CL.argOf
    have hne : ¬ j = i := fun z => by
      subst z
      rw [h1] at d1; cases d1
    rw [if_neg hne, h1]; rfl
theorem slotOf_mem : ∀ {as : CL} {i k : Nat}, as.slotOf k = some i → i ∈ as.slots
  | .nil, _, _, h => by cases h
  | .cons c r, i, 0, h => by cases h
  | .cons c r, i, k + 1, h => by unfold CL.slots; exact slotOf_mem (as := r) h
  | .slot j r, i, 0, h => by
    have : j = i := Option.some.inj h
    subst this
    unfold CL.slots
    exact List.mem_cons_self
  | .slot j r, i, k + 1, h => by unfold CL.slots; exact List.mem_cons_of_mem _ (slotOf_mem (as := r) h)
theorem mem_slots_slotOf : ∀ {as : CL} {i : Nat}, i ∈ as.slots → ∃ k, as.argOf i = some k
  | .nil, _, h => by cases h
  | .cons c r, i, h => by
    unfold CL.slots at h
    obtain ⟨k, hk⟩ := mem_slots_slotOf h
    exact ⟨k + 1, by unfold CL.argOf; rw [hk]; rfl⟩
  | .slot j r, i, h => by
    unfold CL.argOf
    by_cases e : j = i
    · exact ⟨0, if_pos e⟩
    · rw [if_neg e]
      unfold CL.slots at h
      rcases List.mem_cons.mp h with h | h
      · exact absurd h.symm e
      · obtain ⟨k, hk⟩ := mem_slots_slotOf h
        exact ⟨k + 1, by rw [hk]; rfl⟩
/-- an argument by its place -/
theorem ArgOk.at {σ : L2.St} {w : Wd} : ∀ {as : CL} {ds : List D} {vs : List V} {ms : List Sh} {k : Nat} {d : D} {s : Sh}, ArgOk K σ w as ds vs → as.fits shs ms = true → ds[k]? = some d → ms[k]? = some s →
    ∃ v, vs[k]? = some v ∧ ((as.slotOf k = none ∧ s = .sh ∧ Rep K w.G d v) ∨ ∃ i, as.slotOf k = some i ∧ shs[i]? = some s ∧ s ≠ .sh ∧ w.S[i]? = some (some d) ∧ σ[i]? = some (some v))
  | _, _, _, _, _, _, _, .nil, _, h, _ => by simp at h
  | _, _, _, [], _, _, _, .cons _ _, f, _, _ => by simp [CL.fits] at f
  | _, _, _, [], _, _, _, .slot _ _ _, f, _, _ => by simp [CL.fits] at f
  | _, _, _, m :: ms, 0, d, s, .cons h r, f, hd, hm => by
    simp at hd hm
    subst hd hm
    refine ⟨_, rfl, .inl ⟨rfl, ?_, h⟩⟩
    unfold CL.fits at f
    split at f
    · rename_i h1 h2; cases h1
    · rename_i h1 h2; cases h2; rfl
    · rename_i h1 h2; cases h1
    · cases f
  | .cons c r', _, _, m :: ms, k + 1, d, s, .cons h r, f, hd, hm => by
    have f' : CL.fits shs r' ms = true := by
      unfold CL.fits at f
      split at f
      · rename_i h1 h2; cases h1
      · rename_i h1 h2; cases h1; cases h2; exact f
      · rename_i h1 h2; cases h1
      · cases f
    obtain ⟨v, h1, h2⟩ := ArgOk.at r f' (by simpa using hd) (by simpa using hm)
    exact ⟨v, by simpa using h1, h2⟩
  | _, _, _, m :: ms, 0, d, s, .slot e hv r, f, hd, hm => by
    simp at hd hm
    subst hd hm
    unfold CL.fits at f
    simp only [Bool.and_eq_true, beq_iff_eq, bne_iff_ne, ne_eq] at f
    exact ⟨_, rfl, .inr ⟨_, rfl, f.1.1, f.1.2, e, hv⟩⟩
  | .slot i r', _, _, m :: ms, k + 1, d, s, .slot e hv r, f, hd, hm => by
    have f' : CL.fits shs r' ms = true := by
      unfold CL.fits at f
      simp only [Bool.and_eq_true] at f
      exact f.2
    obtain ⟨v, h1, h2⟩ := ArgOk.at r f' (by simpa using hd) (by simpa using hm)
    exact ⟨v, by simpa using h1, h2⟩
theorem ArgOk.len {σ : L2.St} {w : Wd} {as : CL} {ds : List D} {vs : List V} (a : ArgOk K σ w as ds vs) : ds.length = vs.length := by
  induction a with
  | nil => rfl
  | cons _ _ ih => simp [ih]
  | slot _ _ _ ih => simp [ih]
theorem ArgOk.fitLen {σ : L2.St} {w : Wd} {as : CL} {ds : List D} {vs : List V} (a : ArgOk K σ w as ds vs) : ∀ {ms : List Sh}, as.fits shs ms = true → ds.length = ms.length := by
  induction a with
  | nil => intro ms f; cases ms with
    | nil => rfl
    | cons _ _ => cases f
  | cons _ _ ih => intro ms f; cases ms with
    | nil => cases f
    | cons m ms => cases m with
      | sh => simp [ih (show CL.fits shs _ ms = true from f)]
      | _ => cases f
  | slot _ _ _ ih => intro ms f; cases ms with
    | nil => cases f
    | cons m ms =>
      unfold CL.fits at f
      simp only [Bool.and_eq_true] at f
      simp [ih f.2]
/-- the callee's world -/
def inW (as : CL) (w : Wd) (ds : List D) : Wd := { S := ds.map some, H := w.H, G := w.G, F := fun k => match as.slotOf k with
  | some i => if k < ds.length then w.F i else []
  | none => [] }
theorem inW_F {as : CL} {w : Wd} {ds : List D} {k : Nat} {a : Addr} (h : a ∈ (inW as w ds).F k) : ∃ i, as.slotOf k = some i ∧ k < ds.length ∧ a ∈ w.F i := by
  have h : a ∈ (match as.slotOf k with
    | some i => if k < ds.length then w.F i else []
    | none => []) := h
  split at h
  · rename_i i hi
    split at h
    · rename_i hk; exact ⟨i, hi, hk, h⟩
    · cases h
  · cases h
theorem inW_at {as : CL} {w : Wd} {ds : List D} {k i : Nat} (hi : as.slotOf k = some i) (hk : k < ds.length) : (inW as w ds).F k = w.F i := by
  show (match as.slotOf k with
    | some i => if k < ds.length then w.F i else []
    | none => []) = _
  rw [hi]
  exact if_pos hk
theorem in_ok {σ : L2.St} {w : Wd} {as : CL} {ds : List D} {vs : List V} {ms : List Sh} (k : StOk K shs σ w) (a : ArgOk K σ w as ds vs) (f : as.fits shs ms = true) (dst : as.distinct = true) : StOk K ms (vs.map some) (inW as w ds) where
  len := by simp [inW, a.fitLen f]
  lenσ := by rw [List.length_map, ← a.len, a.fitLen f]
  own := fun j d s h1 h2 => by
    have h1 : (ds.map some)[j]? = some (some d) := h1
    rw [List.getElem?_map] at h1
    obtain ⟨d', hd, e⟩ := Option.map_eq_some_iff.mp h1
    cases e
    obtain ⟨v, hv, h⟩ := a.at f hd h2
    refine ⟨v, by rw [List.getElem?_map, hv]; rfl, ?_⟩
    rcases h with ⟨hn, rfl, rp⟩ | ⟨i, hi, hs, _, hS, hσ⟩
    · show Own K w.G w.H .sh d v (match as.slotOf j with
        | some i => if j < ds.length then w.F i else []
        | none => [])
      rw [hn]
      exact .sh rp
    · obtain ⟨v', hv', o⟩ := k.own i d s hS hs
      rw [hσ] at hv'
      cases hv'
      have hl := lt_of_getElem? hd
      show Own K w.G w.H s d v ((inW as w ds).F j)
      rw [inW_at hi hl]; exact o
  emp := fun j h => by
    cases q : (inW as w ds).F j with
    | nil => rfl
    | cons a l =>
      obtain ⟨i, hi, hk, _⟩ := inW_F (a := a) (by rw [q]; exact List.mem_cons_self)
      exact absurd (show (ds.map some)[j]? = some (some ds[j]) by rw [List.getElem?_map, List.getElem?_eq_getElem hk]; rfl) (h _)
  sub := k.sub
  off := fun j a h => by
    obtain ⟨i, _, _, h⟩ := inW_F h
    exact k.off i a h
  dis := fun j l a h1 h2 => by
    obtain ⟨i1, e1, _, m1⟩ := inW_F h1
    obtain ⟨i2, e2, _, m2⟩ := inW_F h2
    have := k.dis i1 i2 a m1 m2
    subst this
    have z1 := slotOf_argOf dst e1
    have z2 := slotOf_argOf dst e2
    rw [z1] at z2
    exact Option.some.inj z2
/-- the caller's world behind the call -/
def outW (as : CL) (w w' : Wd) (outs : List D) : Wd := { S := putBack as w.S outs, H := w'.H, G := w'.G, F := fun i => match as.argOf i with
  | some k => w'.F k
  | none => w.F i }
theorem outW_some {as : CL} {w w' : Wd} {outs : List D} {i k : Nat} (h : as.argOf i = some k) : (outW as w w' outs).F i = w'.F k := by
  show (match as.argOf i with
    | some k => w'.F k
    | none => w.F i) = _
  rw [h]
theorem outW_none {as : CL} {w w' : Wd} {outs : List D} {i : Nat} (h : as.argOf i = none) : (outW as w w' outs).F i = w.F i := by
  show (match as.argOf i with
    | some k => w'.F k
    | none => w.F i) = _
  rw [h]
theorem putBack_get {as : CL} {S : Env0D} {outs : List D} {i : Nat} : (putBack as S outs)[i]? = match S[i]? with
    | some x => some (match as.argOf i with
      | some k => outs[k]?
      | none => x)
    | none => none := by
  unfold putBack
  rw [List.getElem?_mapIdx]
  cases S[i]? <;> rfl
theorem out_ok {σ : L2.St} {w w' : Wd} {as : CL} {ds outs : List D} {vs : List V} {g : Sg} {R : List Addr} (k : StOk K shs σ w) (a : ArgOk K σ w as ds vs) (f : as.fits shs g.ms = true) (dst : as.distinct = true) (ho : outs.length = ds.length)
    (hS : w'.S = outs.map some) (k' : StOk K g.ms (vs.map some) w') (t : Stp (ioSlot g) (inW as w ds) w' R) : StOk K shs σ (outW as w w' outs) ∧ Stp (fun i => i ∈ as.slots) w (outW as w w' outs) R := by
  have gl := a.fitLen f
  -- an untouched slot's addresses
  have same : ∀ i, as.argOf i = none → ∀ a ∈ w.F i, w'.H a = w.H a := fun i hi b hb => by
    cases q : w.H b with
    | none => exact absurd q (k.dom hb)
    | some o =>
      refine t.keep b o q fun j z => ?_
      obtain ⟨i2, e2, _, m2⟩ := inW_F z
      have := k.dis i i2 b hb m2
      subst this
      rw [slotOf_argOf dst e2] at hi
      cases hi
  have noNew : ∀ i, as.argOf i = none → ∀ b ∈ w.F i, ¬ (w'.G b ≠ none ∨ (∃ j, b ∈ w'.F j) ∨ b ∈ R) := fun i hi b hb z => by
    rcases t.new b z with z | ⟨j, z⟩ | z
    · exact z (k.off i b hb)
    · obtain ⟨i2, e2, _, m2⟩ := inW_F z
      have := k.dis i i2 b hb m2
      subst this
      rw [slotOf_argOf dst e2] at hi
      cases hi
    · exact k.dom hb z
  refine ⟨⟨by simp [outW, putBack, k.len], k.lenσ, fun i d s h1 h2 => ?_, fun i h => ?_, k'.sub, fun i b h => ?_, fun i j b h1 h2 => ?_⟩, ⟨fun b hb => ?_, t.grow, fun b o h n => ?_, fun b h => ?_, fun i n => ?_⟩⟩
  · have h1 : (putBack as w.S outs)[i]? = some (some d) := h1
    rw [putBack_get] at h1
    cases q : as.argOf i with
    | none =>
      rw [q] at h1
      have h1' : w.S[i]? = some (some d) := by
        cases z : w.S[i]? with
        | none => rw [z] at h1; cases h1
        | some x => rw [z] at h1; exact h1
      obtain ⟨v, hv, o⟩ := k.own i d s h1' h2
      refine ⟨v, hv, ?_⟩
      show Own K w'.G w'.H s d v ((outW as w w' outs).F i)
      rw [outW_none q]
      exact o.frame t.grow (same i q)
    | some j =>
      rw [q] at h1
      have h1' : outs[j]? = some d := by
        cases z : w.S[i]? with
        | none => rw [z] at h1; cases h1
        | some x => rw [z] at h1; exact Option.some.inj h1
      have e1 := argOf_slotOf q
      have hl : j < ds.length := by rw [← ho]; exact lt_of_getElem? h1'
      obtain ⟨v, hv, h⟩ := a.at f (List.getElem?_eq_getElem hl) (s := g.ms[j]'(gl ▸ hl)) (List.getElem?_eq_getElem _)
      rcases h with ⟨z, _⟩ | ⟨i2, e2, hs, _, _, hσ⟩
      · rw [e1] at z; cases z
      · rw [e1] at e2
        cases e2
        rw [h2] at hs
        cases hs
        obtain ⟨v', hv', o⟩ := k'.own j d _ (by rw [hS, List.getElem?_map, h1']; rfl) (List.getElem?_eq_getElem (gl ▸ hl))
        rw [List.getElem?_map, hv] at hv'
        cases hv'
        refine ⟨v, hσ, ?_⟩
        show Own K w'.G w'.H _ d v ((outW as w w' outs).F i)
        rw [outW_some q]; exact o
  · cases q : as.argOf i with
    | none =>
      rw [outW_none q]
      refine k.emp i fun d z => h d ?_
      show (putBack as w.S outs)[i]? = _
      rw [putBack_get, z, q]
    | some j =>
      rw [outW_some q]
      refine k'.emp j fun d z => ?_
      rw [hS, List.getElem?_map] at z
      obtain ⟨d', hd', e⟩ := Option.map_eq_some_iff.mp z
      cases e
      have e1 := argOf_slotOf q
      have hl : j < ds.length := by rw [← ho]; exact lt_of_getElem? hd'
      obtain ⟨v, hv, hh⟩ := a.at f (List.getElem?_eq_getElem hl) (s := g.ms[j]'(gl ▸ hl)) (List.getElem?_eq_getElem _)
      rcases hh with ⟨zz, _⟩ | ⟨i2, e2, _, _, hSi, _⟩
      · rw [e1] at zz; cases zz
      · rw [e1] at e2
        cases e2
        refine h d ?_
        show (putBack as w.S outs)[i]? = _
        rw [putBack_get, hSi, q]
        exact congrArg some hd'
  · cases q : as.argOf i with
    | none =>
      rw [outW_none q] at h
      cases z : w'.G b with
      | none => exact z
      | some o => exact absurd (.inl (by rw [z]; simp)) (noNew i q b h)
    | some j =>
      rw [outW_some q] at h
      exact k'.off j b h
  · cases q1 : as.argOf i with
    | none =>
      rw [outW_none q1] at h1
      cases q2 : as.argOf j with
      | none => rw [outW_none q2] at h2; exact k.dis i j b h1 h2
      | some l => rw [outW_some q2] at h2; exact absurd (.inr (.inl ⟨l, h2⟩)) (noNew i q1 b h1)
    | some l =>
      rw [outW_some q1] at h1
      cases q2 : as.argOf j with
      | none => rw [outW_none q2] at h2; exact absurd (.inr (.inl ⟨l, h1⟩)) (noNew j q2 b h2)
      | some l2 =>
        rw [outW_some q2] at h2
        have := k'.dis l l2 b h1 h2
        subst this
        have a1 := argOf_slotOf q1
        have a2 := argOf_slotOf q2
        rw [a1] at a2
        exact Option.some.inj a2
  · obtain ⟨h1, h2, h3⟩ := t.off b hb
    refine ⟨h1, h2, fun i z => ?_⟩
    cases q : as.argOf i with
    | none => rw [outW_none q] at z; exact noNew i q b z (.inr (.inr hb))
    | some j => rw [outW_some q] at z; exact h3 j z
  · exact t.keep b o h fun j z => by
      obtain ⟨i2, _, _, m2⟩ := inW_F z
      exact n i2 m2
  · have go : (w'.G b ≠ none ∨ (∃ j, b ∈ w'.F j) ∨ b ∈ R) → (w.G b ≠ none ∨ (∃ i, b ∈ w.F i) ∨ w.H b = none) := fun z => by
      rcases t.new b z with z | ⟨j, z⟩ | z
      · exact .inl z
      · obtain ⟨i2, _, _, m2⟩ := inW_F z
        exact .inr (.inl ⟨i2, m2⟩)
      · exact .inr (.inr z)
    rcases h with h | ⟨i, h⟩ | h
    · exact go (.inl h)
    · cases q : as.argOf i with
      | none => rw [outW_none q] at h; exact .inr (.inl ⟨i, h⟩)
      | some j => rw [outW_some q] at h; exact go (.inr (.inl ⟨j, h⟩))
    · exact go (.inr (.inr h))
  · have q : as.argOf i = none := by
      cases q : as.argOf i with
      | none => rfl
      | some j => exact absurd (slotOf_mem (argOf_slotOf q)) n
    refine ⟨?_, outW_none q, same i q⟩
    show (putBack as w.S outs)[i]? = _
    rw [putBack_get, q]
    cases w.S[i]? <;> rfl
end
end Ev

/-! EvK: the call of a def; a def by its body. -/
namespace Ev
open PySem PySem.Spec PyProof.Rows L2
/-- the arguments as a def leaves them: the shared ones as they came -/
def outsOf : List Sh → List D → Env0D → Option (List D)
  | [], [], _ => some []
  | .sh :: ms, d :: ds, _ :: S => (outsOf ms ds S).map (d :: ·)
  | _ :: ms, _ :: ds, x :: S => (match x with
    | some d => (outsOf ms ds S).map (d :: ·)
    | none => none)
  | _, _, _ => none
/-- what a body's end is worth: None where it runs through -/
def endVal (ret : Sh) : Option D → Option D
  | some d => some d
  | none => if ret = .sh then some .non else none
def mkFn (Γ : List Fn) (g : Sg) (n : Nat) (body : CB) : Fn := ⟨fun ds => if ds.length = g.ms.length then (match body.run Γ (ds.map some ++ List.replicate (n - ds.length) none) with
  | .ok r S => (match endVal g.ret r, outsOf g.ms ds S with
    | some d, some outs => some (d, outs)
    | _, _ => none)
  | _ => none) else none⟩
theorem outsOf_len : ∀ {ms : List Sh} {ds : List D} {S : Env0D} {outs : List D}, outsOf ms ds S = some outs → outs.length = ds.length
  | [], [], _, _, e => by cases e; rfl
  | [], _ :: _, _, _, e => by cases e
  | .sh :: ms, [], _, _, e => by cases e
  | .frz :: ms, [], _, _, e => by cases e
  | .tp :: ms, [], _, _, e => by cases e
  | .lst _ :: ms, [], _, _, e => by cases e
  | .dct _ :: ms, [], _, _, e => by cases e
  | m :: ms, d :: ds, [], _, e => by cases m <;> cases e
  | m :: ms, d :: ds, x :: S, outs, e => by
    have go : ∀ {y : D}, (outsOf ms ds S).map (y :: ·) = some outs → outs.length = (d :: ds).length := fun h => by
      obtain ⟨o, h1, rfl⟩ := Option.map_eq_some_iff.mp h
      simp [outsOf_len h1]
    cases m with
    | sh => exact go e
    | _ => cases x with
      | none => cases e
      | some y => exact go e
theorem outsOf_get : ∀ {ms : List Sh} {ds : List D} {S : Env0D} {outs : List D} {i : Nat} {d : D} {s : Sh}, outsOf ms ds S = some outs → ms[i]? = some s → outs[i]? = some d → (s = .sh ∧ ds[i]? = some d) ∨ (s ≠ .sh ∧ S[i]? = some (some d))
  | [], [], _, _, _, _, _, e, h, _ => by simp at h
  | [], _ :: _, _, _, _, _, _, e, _, _ => by cases e
  | .sh :: ms, [], _, _, _, _, _, e, _, _ => by cases e
  | .frz :: ms, [], _, _, _, _, _, e, _, _ => by cases e
  | .tp :: ms, [], _, _, _, _, _, e, _, _ => by cases e
  | .lst _ :: ms, [], _, _, _, _, _, e, _, _ => by cases e
  | .dct _ :: ms, [], _, _, _, _, _, e, _, _ => by cases e
  | m :: ms, d :: ds, [], _, _, _, _, e, _, _ => by cases m <;> cases e
  | m :: ms, d0 :: ds, x :: S, outs, i, d, s, e, hm, hd => by
    have go : ∀ {y : D}, (outsOf ms ds S).map (y :: ·) = some outs → ((m = .sh ∧ y = d0) ∨ (m ≠ .sh ∧ x = some y)) → (s = .sh ∧ (d0 :: ds)[i]? = some d) ∨ (s ≠ .sh ∧ (x :: S)[i]? = some (some d)) := fun {y} h c => by
      obtain ⟨o, h1, rfl⟩ := Option.map_eq_some_iff.mp h
      cases i with
      | zero =>
        simp at hm hd
        subst hm hd
        rcases c with ⟨rfl, rfl⟩ | ⟨n, rfl⟩
        · exact .inl ⟨rfl, rfl⟩
        · exact .inr ⟨n, rfl⟩
      | succ i =>
        rcases outsOf_get h1 (by simpa using hm) (by simpa using hd) with ⟨a, b⟩ | ⟨a, b⟩
        · exact .inl ⟨a, by simpa using b⟩
        · exact .inr ⟨a, by simpa using b⟩
    cases m with
    | sh => exact go e (.inl ⟨rfl, rfl⟩)
    | _ => cases x with
      | none => cases e
      | some y => exact go e (.inr ⟨(fun z => by cases z), rfl⟩)
section
variable {X : Cx} {Γ : List Fn} {shs : List Sh} {pos : Pos} {ret : Sh}
/-- what is known of a def that is called -/
structure FnAt (X : Cx) (k : Nat) (g : Sg) (fn : Fn) : Prop where
  len : ∀ ds d outs, fn.run ds = some (d, outs) → outs.length = ds.length
  ar : g.ps.length = g.ms.length
  ex : ∃ f fd, X.mg g.name = some (.ref f) ∧ PySem.W.keepIn X.K (.ref f) = true ∧ Binds X.K fd g.ps [] ∧ FnOk X.prog X.w X.K X.mg X.base CX0 k f fd g.ps (spOf X.K g fn)
/-- a call's reading -/
theorem call_rd {g : Sg} {fn : Fn} {gi : Nat} {as : CL} {σ : L2.St} {H : Hp} {Q : VK} (hl : ∀ ds d outs, fn.run ds = some (d, outs) → outs.length = ds.length) (ha : g.ps.length = g.ms.length) (hg : Γ[gi]? = some fn) (wf : as.wf = true) (f : as.fits shs g.ms = true) (dst : as.distinct = true)
    (h : rdE X.K Γ shs (.call gi as) g.ret σ H Q) : tArgs X.K Γ shs as σ H fun vs H1 => spOf X.K g fn (vs ++ []) H1 Q E0 := by
  obtain ⟨w, d, S', rfl, k, er, h⟩ := h
  unfold CE.run at er
  obtain ⟨ds, S1, e1, er⟩ := Res.bind_ok er
  rw [hg] at er
  replace er : (match fn.run ds with
    | some (d, outs) => Res.ok d (putBack as S1 outs)
    | none => Res.bad) = .ok d S' := er
  cases hr : fn.run ds with
  | none => rw [hr] at er; cases er
  | some r =>
    obtain ⟨d', outs⟩ := r
    rw [hr] at er
    cases er
    refine args_ok as wf k e1 fun w1 vs hs k1 t1 a1 => ?_
    subst hs
    rw [List.append_nil]
    refine ⟨inW as w1 ds, ds, d, outs, rfl, rfl, ?_, in_ok k1 a1 f dst, hr, hl _ _ _ hr, fun w' v R hS k' t o => ?_⟩
    · rw [← a1.len, a1.fitLen f, ha]
    · obtain ⟨k2, t2⟩ := out_ok k1 a1 f dst (hl _ _ _ hr) hS k' t
      refine h (outW as w1 w' outs) v R rfl k2 ?_ o
      exact Stp.trans (R1 := []) k k1 (t1.mono fun i hi => by unfold CE.mu; exact List.mem_append_left _ hi) (t2.mono fun i hi => by unfold CE.mu; exact List.mem_append_right _ hi)
theorem e_call {x : Str} {a : Expr} {es : List Expr} {g : Sg} {fn : Fn} {gi kk : Nat} {as : CL} {ps : Pos} (F : FnAt X kk g fn) (hr : Room kk X.A) (hx : x = g.name) (hgl : Gl X x) (hg : Γ[gi]? = some fn) (ha : PAg X Γ shs (a :: es) as) (wf : as.wf = true) (f : as.fits shs g.ms = true) (dst : as.distinct = true)
    (hdb : (x == ("__debug__" : Str)) = false) : PE X (.Call (.Name x ps) (a :: es) [] pos) (rdE X.K Γ shs (.call gi as) g.ret) := by
  obtain ⟨f0, fd, h1, h2, h3, h4⟩ := F.ex
  obtain ⟨r', hr'⟩ := ha.tail
  refine peI (pe_call h4 hr hgl (by rw [hx]; exact h1) h2 h3 .nil pass0 ha.pa hdb ha.star (backTo_any _ _ hr'.noStar)) fun σ H Q q => ?_
  exact call_rd F.len F.ar hg wf f dst q
theorem e_call0 {x : Str} {g : Sg} {fn : Fn} {gi kk : Nat} {ps : Pos} (F : FnAt X kk g fn) (hr : Room kk X.A) (hx : x = g.name) (hgl : Gl X x) (hg : Γ[gi]? = some fn) (f : CL.nil.fits shs g.ms = true) (hdb : (x == ("__debug__" : Str)) = false) :
    PE X (.Call (.Name x ps) [] [] pos) (rdE X.K Γ shs (.call gi .nil) g.ret) := by
  obtain ⟨f0, fd, h1, h2, h3, h4⟩ := F.ex
  refine peI (pe_call0 h4 hr hgl (by rw [hx]; exact h1) h2 h3 .nil pass0 hdb) fun σ H Q q => ?_
  exact call_rd F.len F.ar hg rfl f rfl q
end
/-! ### a def by its body -/
/-- the parameters' world, from the body's -/
def backW (ms : List Sh) (n : Nat) (w : Wd) (outs : List D) : Wd := { S := outs.map some, H := w.H, G := w.G, F := fun i => if i < n ∧ ms[i]? ≠ some .sh then w.F i else [] }
theorem start_eq (N : List Str) (vs : List V) : start N vs = vs.map some ++ List.replicate (N.length - vs.length) none := rfl
theorem body_ok {K : Fg} {Γ : List Fn} {g : Sg} {N : List Str} {shs : List Sh} {body : CB} {vs : List V} {H : Hp} {Q : VK} {E : XK} (hsh : shs.take g.ms.length = g.ms) (hN : N.length = shs.length) (ar : g.ps.length = g.ms.length) (hsg : ∀ i, i < g.ms.length → g.ms[i]? ≠ some .sh → i ∉ body.sg)
    (h : spOf K g (mkFn Γ g N.length body) vs H Q E) :
    rdS K shs g.ret body.mu body.sg (body.run Γ) { nx := fun _ H' => Q .non H', rt := Q } (start N vs) H := by
  obtain ⟨w, ds, d, outs, rfl, hS, hv, k, hr, ho, h⟩ := h
  have hds : ds.length = g.ms.length := by have := k.len; rw [hS, List.length_map] at this; exact this
  have hvs : vs.length = g.ms.length := by rw [hv, ar]
  have hle : g.ms.length ≤ shs.length := by
    rcases Nat.lt_or_ge shs.length g.ms.length with z | z
    · have := congrArg List.length hsh
      rw [List.length_take] at this
      omega
    · exact z
  have shAt : ∀ {i : Nat}, i < g.ms.length → shs[i]? = g.ms[i]? := fun {i} hi => by
    rw [← hsh, List.getElem?_take_of_lt hi]
  replace hr : (if ds.length = g.ms.length then (match body.run Γ (ds.map some ++ List.replicate (N.length - ds.length) none) with
    | .ok r S => (match endVal g.ret r, outsOf g.ms ds S with
      | some d, some outs => some (d, outs)
      | _, _ => none)
    | _ => none) else none) = some (d, outs) := hr
  rw [if_pos hds] at hr
  split at hr
  · rename_i r S' er
    split at hr
    rotate_left
    · cases hr
    rename_i d0 o0 hv0 ho'
    cases hr
    -- the body's first world
    have k0 : StOk K shs (start N vs) { w with S := ds.map some ++ List.replicate (N.length - ds.length) none } := by
      refine ⟨by simp; omega, by rw [start_eq]; simp; omega, fun i d s h1 h2 => ?_, fun i h => ?_, k.sub, k.off, k.dis⟩
      · have h1 : (ds.map some ++ List.replicate (N.length - ds.length) none)[i]? = some (some d) := h1
        have hi : i < ds.length := by
          rcases Nat.lt_or_ge i ds.length with z | z
          · exact z
          · rw [List.getElem?_append_right (by simpa using z), List.getElem?_replicate] at h1
            split at h1
            · cases h1
            · cases h1
        rw [List.getElem?_append_left (by simpa using hi)] at h1
        have hi' : i < g.ms.length := by omega
        obtain ⟨v, hv', o⟩ := k.own i d s (by rw [hS]; exact h1) (by rw [← shAt hi']; exact h2)
        refine ⟨v, ?_, o⟩
        rw [start_eq, List.getElem?_append_left (by simp; omega)]
        exact hv'
      · refine k.emp i fun d z => h d ?_
        rw [hS] at z
        show (ds.map some ++ List.replicate (N.length - ds.length) none)[i]? = _
        rw [List.getElem?_append_left (lt_of_getElem? z)]
        exact z
    -- from the body's end to the parameters
    have fin : ∀ {σ' : L2.St} {w' : Wd} {v : V} {R : List Addr}, w'.S = S' → StOk K shs σ' w' → Stp (fun i => i ∈ body.mu) { w with S := ds.map some ++ List.replicate (N.length - ds.length) none } w' R → (∀ i, i ∉ body.sg → σ'[i]? = (start N vs)[i]?) →
        StOk K g.ms (vs.map some) (backW g.ms ds.length w' outs) ∧ Stp (ioSlot g) w (backW g.ms ds.length w' outs) R := fun {σ' w' v R} hs' k' t' g' => by
      have Fin : ∀ {i a}, a ∈ (backW g.ms ds.length w' outs).F i → i < ds.length ∧ g.ms[i]? ≠ some .sh ∧ a ∈ w'.F i := fun {i a} z => by
        have z : a ∈ (if i < ds.length ∧ g.ms[i]? ≠ some .sh then w'.F i else []) := z
        split at z
        · rename_i c; exact ⟨c.1, c.2, z⟩
        · cases z
      have shF : ∀ {i}, g.ms[i]? = some .sh → w.F i = [] := fun {i} hi => by
        cases q : w.S[i]? with
        | none => exact k.emp i fun d z => by rw [q] at z; cases z
        | some x => cases x with
          | none => exact k.emp i fun d z => by rw [q] at z; cases z
          | some d =>
            obtain ⟨v, _, o⟩ := k.own i d .sh q hi
            exact o.nilR.1
      refine ⟨⟨by simp [backW, ho, hds], by simp [hvs], fun i d s h1 h2 => ?_, fun i hh => ?_, k'.sub, fun i a z => ?_, fun i j a z1 z2 => ?_⟩, ⟨fun a ha => ?_, t'.grow, t'.keep, fun a z => ?_, fun i n => ?_⟩⟩
      · have h1 : (outs.map some)[i]? = some (some d) := h1
        rw [List.getElem?_map] at h1
        obtain ⟨d', hd', e⟩ := Option.map_eq_some_iff.mp h1
        cases e
        have hi : i < ds.length := by rw [← ho]; exact lt_of_getElem? hd'
        rcases outsOf_get ho' h2 hd' with ⟨rfl, hd⟩ | ⟨ns, hd⟩
        · obtain ⟨v, hv', o⟩ := k.own i d .sh (by rw [hS, List.getElem?_map, hd]; rfl) h2
          refine ⟨v, hv', ?_⟩
          show Own K w'.G w'.H .sh d v (if i < ds.length ∧ g.ms[i]? ≠ some .sh then w'.F i else [])
          rw [if_neg fun z => z.2 h2]
          exact .sh (o.nilR.2.mono t'.grow)
        · obtain ⟨v, hv', o⟩ := k'.own i d s (by rw [hs']; exact hd) (by rw [shAt (by omega)]; exact h2)
          have hne : g.ms[i]? ≠ some .sh := by rw [h2]; intro z; exact ns (Option.some.inj z)
          refine ⟨v, ?_, ?_⟩
          · rw [g' i (hsg i (by omega) hne), start_eq, List.getElem?_append_left (by simp; omega)] at hv'
            exact hv'
          · show Own K w'.G w'.H s d v (if i < ds.length ∧ g.ms[i]? ≠ some .sh then w'.F i else [])
            rw [if_pos ⟨hi, hne⟩]; exact o
      · cases q : (backW g.ms ds.length w' outs).F i with
        | nil => rfl
        | cons a l =>
          obtain ⟨hi, _, _⟩ := Fin (i := i) (a := a) (by rw [q]; exact List.mem_cons_self)
          exact absurd (show (outs.map some)[i]? = some (some (outs[i]'(by omega))) by rw [List.getElem?_map, List.getElem?_eq_getElem (by omega)]; rfl) (hh _)
      · exact k'.off i a (Fin z).2.2
      · exact k'.dis i j a (Fin z1).2.2 (Fin z2).2.2
      · obtain ⟨h1, h2, h3⟩ := t'.off a ha
        exact ⟨h1, h2, fun i z => h3 i (Fin z).2.2⟩
      · rcases z with z | ⟨i, z⟩ | z
        · exact t'.new a (.inl z)
        · exact t'.new a (.inr (.inl ⟨i, (Fin z).2.2⟩))
        · exact t'.new a (.inr (.inr z))
      · have hi : g.ms[i]? = some .sh := by
          unfold ioSlot at n
          exact Classical.not_not.mp n
        have hil : i < g.ms.length := lt_of_getElem? hi
        refine ⟨?_, ?_, fun a ha => by rw [shF hi] at ha; cases ha⟩
        · show (outs.map some)[i]? = w.S[i]?
          have hio : i < outs.length := by omega
          rcases outsOf_get ho' hi (List.getElem?_eq_getElem hio) with ⟨_, hd⟩ | ⟨ns, _⟩
          · rw [hS, List.getElem?_map, List.getElem?_map, hd, List.getElem?_eq_getElem hio]
          · exact absurd rfl ns
        · show (if i < ds.length ∧ g.ms[i]? ≠ some .sh then w'.F i else []) = w.F i
          rw [if_neg fun z => z.2 hi, shF hi]
    refine ⟨{ w with S := ds.map some ++ List.replicate (N.length - ds.length) none }, r, S', rfl, k0, er, ?_⟩
    cases r with
    | none =>
      intro σ' w' hs' k' t' g'
      obtain ⟨k2, t2⟩ := fin (v := .non) hs' k' t' g'
      have hv0 : (if g.ret = .sh then some D.non else none) = some d := hv0
      split at hv0
      · rename_i e
        cases hv0
        exact h (backW g.ms ds.length w' outs) .non [] rfl k2 t2 (by rw [e]; exact .sh .non)
      · cases hv0
    | some d' =>
      have hv0 : some d' = some d := hv0
      cases hv0
      intro σ' w' v R hs' k' t' g' o
      obtain ⟨k2, t2⟩ := fin (v := v) hs' k' t' g'
      exact h (backW g.ms ds.length w' outs) v R rfl k2 t2 o
  · cases hr
end Ev

/-! EvL: list comprehensions. -/
namespace Ev
open PySem PySem.Spec PyProof.Rows L2
theorem wipeD_len (S : Env0D) : ∀ vs : List Nat, (wipeD S vs).length = S.length
  | [] => rfl
  | v :: vs => by unfold wipeD; rw [List.length_set, wipeD_len S vs]
theorem wipeD_out {S : Env0D} {i : Nat} : ∀ {vs : List Nat}, i ∉ vs → (wipeD S vs)[i]? = S[i]?
  | [], _ => rfl
  | v :: vs, h => by
    unfold wipeD
    rw [List.getElem?_set_ne (fun z => h (by rw [z]; exact List.mem_cons_self)), wipeD_out fun z => h (List.mem_cons_of_mem _ z)]
theorem wipeD_in {S : Env0D} {i : Nat} {d : D} : ∀ {vs : List Nat}, i ∈ vs → (wipeD S vs)[i]? ≠ some (some d)
  | v :: vs, h => by
    unfold wipeD
    by_cases e : v = i
    · subst e
      intro z
      have hl := lt_of_getElem? z
      rw [List.length_set] at hl
      rw [List.getElem?_set_self hl] at z
      cases z
    · rw [List.getElem?_set_ne e]
      rcases List.mem_cons.mp h with h | h
      · exact absurd h.symm e
      · exact wipeD_in h
theorem wipe_out {σ : L2.St} {i : Nat} : ∀ {vs : List Nat}, i ∉ vs → (wipe σ vs)[i]? = σ[i]?
  | [], _ => rfl
  | v :: vs, h => by
    unfold wipe
    rw [List.getElem?_set_ne (fun z => h (by rw [z]; exact List.mem_cons_self)), wipe_out fun z => h (List.mem_cons_of_mem _ z)]
theorem restore_len (S0 S : Env0D) : ∀ vs : List Nat, (restore S0 S vs).length = S.length
  | [] => rfl
  | v :: vs => by unfold restore; rw [List.length_set, restore_len S0 S vs]
theorem restore_out {S0 S : Env0D} {i : Nat} : ∀ {vs : List Nat}, i ∉ vs → (restore S0 S vs)[i]? = S[i]?
  | [], _ => rfl
  | v :: vs, h => by
    unfold restore
    rw [List.getElem?_set_ne (fun z => h (by rw [z]; exact List.mem_cons_self)), restore_out fun z => h (List.mem_cons_of_mem _ z)]
theorem restore_in {S0 S : Env0D} {i : Nat} {d : D} : ∀ {vs : List Nat}, i ∈ vs → (restore S0 S vs)[i]? = some (some d) → S0[i]? = some (some d)
  | v :: vs, h, e => by
    unfold restore at e
    by_cases z : v = i
    · subst z
      have hl := lt_of_getElem? e
      rw [List.length_set] at hl
      rw [List.getElem?_set_self hl] at e
      cases q : S0[v]? with
      | none => rw [q] at e; cases e
      | some o => rw [q] at e; exact e
    · rw [List.getElem?_set_ne z] at e
      rcases List.mem_cons.mp h with h | h
      · exact absurd h.symm z
      · exact restore_in h e
/-- the block's own slots forgotten -/
def wipeW (w : Wd) (vs : List Nat) : Wd := { w with S := wipeD w.S vs }
def ownSh (shs : List Sh) (vs : List Nat) : Bool := vs.all fun i => shs[i]? == some .sh
theorem ownSh_get {shs : List Sh} {vs : List Nat} (h : ownSh shs vs = true) {i : Nat} (hi : i ∈ vs) : shs[i]? = some .sh := by
  have := List.all_eq_true.mp h i hi
  simpa using this
theorem own_nil {K : Fg} {shs : List Sh} {σ : L2.St} {w : Wd} (k : StOk K shs σ w) {i : Nat} (hi : shs[i]? = some .sh) : w.F i = [] := by
  by_cases z : ∃ d, w.S[i]? = some (some d)
  · obtain ⟨d, e⟩ := z
    obtain ⟨v, _, o⟩ := k.own i d _ e hi
    exact o.nilR.1
  · exact k.emp i fun d e => z ⟨d, e⟩
theorem wipe_ok {K : Fg} {shs : List Sh} {σ : L2.St} {w : Wd} {vs : List Nat} (h : ownSh shs vs = true) (k : StOk K shs σ w) : StOk K shs (wipe σ vs) (wipeW w vs) where
  len := (wipeD_len _ _).trans k.len
  lenσ := (wipe_length _ _).trans k.lenσ
  own := fun i d s h1 h2 => by
    have h1 : (wipeD w.S vs)[i]? = some (some d) := h1
    by_cases z : i ∈ vs
    · exact absurd h1 (wipeD_in z)
    · rw [wipeD_out z] at h1
      obtain ⟨v, hv, o⟩ := k.own i d s h1 h2
      exact ⟨v, (wipe_out z).trans hv, o⟩
  emp := fun i n => by
    by_cases z : i ∈ vs
    · exact own_nil k (ownSh_get h z)
    · exact k.emp i fun d e => n d ((wipeD_out z).trans e)
  sub := k.sub
  off := k.off
  dis := k.dis
theorem wipe_stp {mu : Nat → Prop} {w w' : Wd} {R : List Addr} {vs : List Nat} (t : Stp mu w w' R) (h : ∀ i ∈ vs, mu i) : Stp mu w (wipeW w' vs) R where
  off := t.off
  grow := t.grow
  keep := t.keep
  new := t.new
  un := fun i n => by
    obtain ⟨a, b, c⟩ := t.un i n
    exact ⟨(wipeD_out fun z => n (h i z)).trans a, b, c⟩
/-- .. and back -/
def backS (w1 w : Wd) (vs : List Nat) (S : Env0D) : Wd := { w with S := restore w1.S S vs }
theorem back_ok {K : Fg} {shs : List Sh} {σ : L2.St} {w1 w : Wd} {vs : List Nat} {S : Env0D} (h : ownSh shs vs = true) (k1 : StOk K shs σ w1) (k : StOk K shs (wipe σ vs) w) (e : w.S = wipeD S vs) (g : Same w1.G w.G) : StOk K shs σ (backS w1 w vs S) where
  len := by
    have := k.len
    rw [e, wipeD_len] at this
    exact (restore_len _ _ _).trans this
  lenσ := k1.lenσ
  own := fun i d s h1 h2 => by
    have h1 : (restore w1.S S vs)[i]? = some (some d) := h1
    by_cases z : i ∈ vs
    · obtain ⟨v, hv, o⟩ := k1.own i d s (restore_in z h1) h2
      have hs := ownSh_get h z
      rw [h2] at hs
      cases hs
      refine ⟨v, hv, ?_⟩
      show Own K w.G w.H .sh d v (w.F i)
      rw [own_nil k h2]
      exact .sh (o.nilR.2.mono g)
    · rw [restore_out z] at h1
      obtain ⟨v, hv, o⟩ := k.own i d s (by rw [e, wipeD_out z]; exact h1) h2
      rw [wipe_out z] at hv
      exact ⟨v, hv, o⟩
  emp := fun i n => by
    by_cases z : i ∈ vs
    · exact own_nil k (ownSh_get h z)
    · refine k.emp i fun d e' => n d ?_
      show (restore w1.S S vs)[i]? = _
      rw [restore_out z, ← wipeD_out z, ← e]; exact e'
  sub := k.sub
  off := k.off
  dis := k.dis
theorem back_stp {mu : Nat → Prop} {w0 w1 w : Wd} {R : List Addr} {vs : List Nat} {S : Env0D} (t : Stp mu w0 w R) (h : ∀ i ∈ vs, mu i) (e : w.S = wipeD S vs) : Stp mu w0 (backS w1 w vs S) R where
  off := t.off
  grow := t.grow
  keep := t.keep
  new := t.new
  un := fun i n => by
    obtain ⟨a, b, c⟩ := t.un i n
    refine ⟨?_, b, c⟩
    show (restore w1.S S vs)[i]? = _
    rw [restore_out fun z => n (h i z), ← wipeD_out fun z => n (h i z), ← e]; exact a
/-- the list that is handed on grows -/
theorem grow_ok {K : Fg} {shs : List Sh} {σ : L2.St} {mu : Nat → Prop} {w0 w : Wd} {p : Addr} {o : HO} (k0 : StOk K shs σ w0 ∨ True) (hn : w0.H p = none) (hd : ∀ i a, a ∈ w0.F i → w0.H a ≠ none) {σ' : L2.St} (k : StOk K shs σ' w) (t : Stp mu w0 w [p]) :
    StOk K shs σ' { w with H := upd w.H p o } ∧ Stp mu w0 { w with H := upd w.H p o } [p] := by
  obtain ⟨h1, h2, h3⟩ := t.off p List.mem_cons_self
  have ne : ∀ {i a}, a ∈ w.F i → a ≠ p := fun {i a} ha e => h3 i (e ▸ ha)
  refine ⟨⟨k.len, k.lenσ, fun i d s a b => ?_, k.emp, fun a o' e => ?_, k.off, k.dis⟩, ⟨fun a ha => ?_, t.grow, fun a o' e n => ?_, t.new, fun i n => ?_⟩⟩
  · obtain ⟨v, hv, ow⟩ := k.own i d s a b
    exact ⟨v, hv, ow.frame (Same.refl _) fun a ha => upd_ne (ne ha)⟩
  · show upd w.H p o a = some o'
    rw [upd_ne fun z => ?_]
    · exact k.sub a o' e
    · subst z
      rw [h1] at e; cases e
  · rw [List.mem_singleton] at ha
    subst ha
    exact ⟨h1, by show upd w.H a o a ≠ none; rw [upd_same]; simp, h3⟩
  · show upd w.H p o a = some o'
    rw [upd_ne fun z => ?_]
    · exact t.keep a o' e n
    · subst z
      rw [hn] at e; cases e
  · obtain ⟨a, b, c⟩ := t.un i n
    refine ⟨a, b, fun x hx => ?_⟩
    show upd w.H p o x = w0.H x
    rw [upd_ne fun z => ?_]
    · exact c x hx
    · subst z
      exact hd i x hx hn
end Ev

/-! EvM: list comprehensions, the rule. -/
namespace Ev
open PySem PySem.Spec PyProof.Rows L2
theorem wipe_in {σ : L2.St} {i : Nat} : ∀ {vs : List Nat}, i ∈ vs → (wipe σ vs)[i]? = if i < σ.length then some none else none
  | v :: vs, h => by
    unfold wipe
    by_cases e : v = i
    · subst e
      rw [List.getElem?_set, wipe_length]
      simp
    · rw [List.getElem?_set_ne e]
      rcases List.mem_cons.mp h with h | h
      · exact absurd h.symm e
      · exact wipe_in h
def rdTs (K : Fg) (Γ : List Fn) (shs : List Sh) (c : CL) : TT := fun σ H Q => ∃ (w : Wd) (b : Bool) (S' : Env0D), w.H = H ∧ StOk K shs σ w ∧ c.all Γ w.S = .ok b S' ∧
  ∀ (w' : Wd), w'.S = S' → StOk K shs σ w' → Stp (fun i => i ∈ c.mu) w w' [] → Q b w'.H
theorem ptsI {X : Cx} {es : List Expr} {t t' : TT} (h : PTs X es t) (i : ∀ σ H Q, t' σ H Q → t σ H Q) : PTs X es t' := ⟨fun pins s σ H Q I q => h.run pins s σ H Q I (i σ H Q q)⟩
section
variable {X : Cx} {Γ : List Fn} {shs : List Sh} {pos : Pos}
theorem ts_nil : PTs X [] (rdTs X.K Γ shs .nil) := by
  refine ptsI pts_nil fun σ H Q q => ?_
  obtain ⟨w, b, S', rfl, k, e, h⟩ := q
  unfold CL.all at e
  cases e
  exact h w rfl k .refl
theorem ts_one {e : Expr} {c : CE} (he : PT X e (rdT X.K Γ shs c)) : PTs X [e] (rdTs X.K Γ shs (.cons c .nil)) := by
  refine ptsI (pts_one he) fun σ H Q q => ?_
  obtain ⟨w, b, S', rfl, k, e, h⟩ := q
  unfold CL.all at e
  obtain ⟨d, S1, e1, e⟩ := Res.bind_ok e
  have fin : ∀ {b' : Bool} {S1 : Env0D}, c.run Γ w.S = .ok (.bl b') S1 → (b = b' ∧ S' = S1) → rdT X.K Γ shs c σ w.H Q := fun {b' S1} e1 z => by
    obtain ⟨rfl, rfl⟩ := z
    exact ⟨w, b, S', rfl, k, e1, fun w' hs k' t => h w' hs k' (t.mono fun i hi => by unfold CL.mu; exact List.mem_append_left _ hi)⟩
  split at e
  · unfold CL.all at e
    cases e
    exact fin e1 ⟨rfl, rfl⟩
  · cases e
    exact fin e1 ⟨rfl, rfl⟩
  · cases e
/-- the slots that are walked stay as they are -/
def lcOk (own : List Nat) (tg : Tg) (it conds : CL) (elt : CE) : Bool := (it.slots.all fun i => !(own.contains i) && (!(conds.mu.contains i) && !(elt.mu.contains i))) && tg.slots.all fun i => own.contains i
theorem lc_rd {wi : TI} {wk : Wk} {it conds : CL} {ce : CE} {own : List Nat} {tg : Tg} {fz : Bool} (hw : WkRd X.K Γ shs fz wi wk it) (hsh : tgSh shs tg = .sh) (ok : tgOk shs tg = true) (hown : ownSh shs own = true) (wf : it.wf = true) (oks : okSlots fz shs it = true) (fo : lcOk own tg it conds ce = true)
    {σ : L2.St} {H : Hp} {Q : VK} (q : rdE X.K Γ shs (.lc own tg wk it conds ce) (.lst .sh) σ H Q) : tLc wi (gRd X.K tg) (rdTs X.K Γ shs conds) (rdE X.K Γ shs ce .sh) own σ H Q := by
  obtain ⟨w, d, S', rfl, k, er, h⟩ := q
  unfold CE.run at er
  obtain ⟨ds, S1, e1, er⟩ := Res.bind_ok er
  split at er
  · rename_i xs ei
    obtain ⟨ys, S6, eg, er⟩ := Res.bind_ok er
    cases er
    refine hw wf oks k e1 ei fun w1 J P hs1 k1 t1 it1 hP D hD => ?_
    subst hs1
    let f : Ev.D → Env0D → Res (Option Ev.D) := fun x S2 => match bindTg tg x (wipeD S2 own) with
      | some S3 => (conds.all Γ S3).bind fun b S4 => if b then (ce.run Γ S4).bind fun y S5 => .ok (some y) S5 else .ok none S4
      | none => .bad
    have eg : gather f xs [] w1.S = .ok ys S6 := eg
    obtain ⟨fo1, fo2⟩ := Bool.and_eq_true_iff.mp fo
    let mu : Nat → Prop := fun i => i ∈ own ∨ (i ∈ conds.mu ∨ i ∈ ce.mu)
    have muL : ∀ i, i ∈ it.mu → i ∈ (CE.lc own tg wk it conds ce).mu := fun i hi => by unfold CE.mu; exact List.mem_append_right _ (List.mem_append_left _ hi)
    have muA : ∀ i, mu i → i ∈ (CE.lc own tg wk it conds ce).mu := fun i hi => by
      unfold CE.mu
      rcases hi with hi | hi | hi
      · exact List.mem_append_left _ hi
      · exact List.mem_append_right _ (List.mem_append_right _ (List.mem_append_left _ hi))
      · exact List.mem_append_right _ (List.mem_append_right _ (List.mem_append_right _ hi))
    have tgm : ∀ i ∈ tg.slots, i ∈ own := fun i hi => by
      have := List.all_eq_true.mp fo2 i hi
      simpa using this
    have kw := wipe_ok hown k1
    have dom0 : ∀ i a, a ∈ w1.F i → w1.H a ≠ none := fun i a ha => k1.dom ha
    have sm0 : Same w1.H (upd w1.H D (.lst [])) := fun b o eb => by rw [upd_ne (ne_of_none eb hD)]; exact eb
    have fr0 : ∀ a ∈ [D], (wipeW w1 own).H a = none ∧ (upd w1.H D (.lst [])) a ≠ none := fun a ha => by
      rw [List.mem_singleton] at ha
      subst ha
      exact ⟨hD, by rw [upd_same]; simp⟩
    refine ⟨fun i m H2 => m = xs.length - i ∧ i ≤ xs.length ∧ ∃ (w2 : Wd) (S2 : Env0D) (acc : List Ev.D) (vs : List V), w2.H = H2 ∧ w2.S = wipeD S2 own ∧ StOk X.K shs (wipe σ own) w2 ∧ Stp mu (wipeW w1 own) w2 [D] ∧ w2.H D = some (.lst vs) ∧ RepL X.K w2.G acc vs ∧ gather f (xs.drop i) acc S2 = .ok ys S6,
      ⟨xs.length, by simp, Nat.zero_le _, { wipeW w1 own with H := upd w1.H D (.lst []) }, w1.S, [], [], rfl, rfl, kw.ext sm0, Stp.ext kw sm0 fr0, upd_same, .nil, by simpa using eg⟩, ?_⟩
    rintro i m H2 ⟨rfl, hi, w2, S2, acc, vs, rfl, hS2, k2, t2, hl2, r2, e2⟩
    have P2 : P w2.H := hP w2.H (t2.grow.trans k2.sub) fun j hj a ha => by
      have fj := List.all_eq_true.mp fo1 j hj
      simp only [Bool.and_eq_true, Bool.not_eq_true', List.contains_eq_mem, decide_eq_false_iff_not] at fj
      exact (t2.un j fun z => z.elim fj.1 fun z => z.elim fj.2.1 fj.2.2).2.2 a ha
    by_cases hlt : i < xs.length
    · refine .inr ⟨it1.go i w2.H hlt P2, fun H' => ∃ (w3 : Wd) (S3 : Env0D) (acc : List Ev.D) (vs : List V), w3.H = H' ∧ w3.S = wipeD S3 own ∧ StOk X.K shs (wipe σ own) w3 ∧ Stp mu (wipeW w1 own) w3 [D] ∧ w3.H D = some (.lst vs) ∧ RepL X.K w3.G acc vs ∧ gather f (xs.drop (i + 1)) acc S3 = .ok ys S6,
        fun H' ⟨w3, S3, acc, vs, z⟩ => ⟨xs.length - (i + 1), by omega, rfl, hlt, w3, S3, acc, vs, z⟩, fun v H' y => ?_⟩
      have hd : xs[i]? = some xs[i] := List.getElem?_eq_getElem hlt
      obtain ⟨sm, R, s, sok, fr, o⟩ := it1.yld i w2.H v H' _ P2 hd y
      have k3 := k2.ext sm
      have t3 : Stp mu (wipeW w1 own) { w2 with H := H' } ([D] ++ R) := Stp.trans (R1 := [D]) kw k2 t2 (Stp.ext k2 sm fr)
      have DR : D ∉ R := fun z => by
        have := (fr D z).1
        rw [hl2] at this
        cases this
      have k4 : StOk X.K shs (wipe σ own) (meltW { w2 with H := H' } R) := k3.melt fun a ha j => (t3.off a (List.mem_append_right _ ha)).2.2 j
      have t4 : Stp mu (wipeW w1 own) (meltW { w2 with H := H' } R) [D] := t3.melt k3 (fun a ha => List.mem_append_right _ ha) fun a ha => ⟨List.mem_append_left _ ha, by rw [List.mem_singleton] at ha; rw [ha]; exact DR⟩
      have o4 : Own X.K (meltW { w2 with H := H' } R).G H' .sh xs[i] v [] := .sh ((o.frame (t2.grow) (fun _ _ => rfl)).melt (meltW_grow k3) sok fun a ha => meltW_in ha)
      have hl4 : (meltW { w2 with H := H' } R).H D = some (.lst vs) := sm _ _ hl2
      have r4 : RepL X.K (meltW { w2 with H := H' } R).G acc vs := r2.mono (meltW_grow k3)
      rw [List.drop_eq_getElem_cons hlt] at e2
      unfold gather at e2
      obtain ⟨r, S3, e3, e2⟩ := Res.bind_ok e2
      have e3 : (match bindTg tg xs[i] (wipeD S2 own) with
        | some S3 => (conds.all Γ S3).bind fun b S4 => if b then (ce.run Γ S4).bind fun y S5 => .ok (some y) S5 else .ok none S4
        | none => .bad) = Res.ok r S3 := e3
      split at e3
      · rename_i Sb eb
        obtain ⟨b, S4, e4, e3⟩ := Res.bind_ok e3
        have eb : bindTg tg xs[i] (meltW { w2 with H := H' } R).S = some Sb := by
          show bindTg tg xs[i] w2.S = some Sb
          rw [hS2]; exact eb
        refine bind_ok (mu := mu) (w := meltW { w2 with H := H' } R) ok (fun j hj => .inl (tgm j hj)) k4 .refl (by rw [hsh]; exact o4) eb fun σ5 w5 hs5 k5 t5 g5 => ?_
        subst hs5
        have t5' : Stp mu (wipeW w1 own) w5 [D] := Stp.trans (R1 := [D]) (R2 := []) kw k4 t4 t5
        have hl5 : w5.H D = some (.lst vs) := (Stp.held t4 t5 D List.mem_cons_self).trans hl4
        have hw5 : wipe σ5 own = wipe σ own := by
          refine List.ext_getElem? fun j => ?_
          by_cases z : j ∈ own
          · rw [wipe_in z, wipe_in z, k5.lenσ, k1.lenσ]
          · rw [wipe_out z, g5 j fun q => z (tgm j q)]
        refine ⟨hw5, w5, b, S4, rfl, k5, e4, fun w6 hs6 k6 t6 => ?_⟩
        subst hs6
        have t56 : Stp mu w5 w6 [] := t6.mono fun j hj => .inr (.inl hj)
        have t6' : Stp mu (wipeW w1 own) w6 [D] := Stp.trans (R1 := [D]) (R2 := []) kw k5 t5' t56
        have hl6 : w6.H D = some (.lst vs) := (Stp.held t5' t56 D List.mem_cons_self).trans hl5
        cases b with
        | false =>
          cases e3
          refine iteF ⟨wipeW w6 own, w6.S, acc, vs, rfl, rfl, ?_, wipe_stp t6' fun j hj => .inl hj, hl6, (r4.mono t5.grow).mono t6.grow, e2⟩
          rw [← hw5]
          exact wipe_ok hown k6
        | true =>
          have e3 : ((ce.run Γ w6.S).bind fun y S5 => Res.ok (some y) S5) = .ok r S3 := e3
          obtain ⟨yv, S5, e5, e3⟩ := Res.bind_ok e3
          cases e3
          replace e2 : (if sizeOk (acc.length + 1) then gather f (xs.drop (i + 1)) (acc ++ [yv]) S3 else .bad) = .ok ys S6 := e2
          split at e2
          · rename_i hz
            refine iteT ⟨w6, yv, S3, rfl, k6, e5, fun w7 v7 R7 hs7 k7 t7 o7 => ?_⟩
            subst hs7
            obtain ⟨rfl, r7⟩ := o7.nilR
            have t67 : Stp mu w6 w7 [] := t7.mono fun j hj => .inr (.inr hj)
            have t7' : Stp mu (wipeW w1 own) w7 [D] := Stp.trans (R1 := [D]) (R2 := []) kw k6 t6' t67
            have hl7 : w7.H D = some (.lst vs) := (Stp.held t6' t67 D List.mem_cons_self).trans hl6
            obtain ⟨k8, t8⟩ := grow_ok (o := .lst (vs ++ [v7])) (.inr trivial) (show (wipeW w1 own).H D = none from hD) dom0 k7 t7' (K := X.K) (σ := σ)
            have r8 : RepL X.K w7.G acc vs := ((r4.mono t5.grow).mono t6.grow).mono t7.grow
            refine ⟨vs, hl7, ?_, wipeW { w7 with H := upd w7.H D (.lst (vs ++ [v7])) } own, w7.S, acc ++ [yv], vs ++ [v7], rfl, rfl, ?_, wipe_stp t8 fun j hj => .inl hj, upd_same, r8.append (.cons r7 .nil), e2⟩
            · have : acc.length + 1 ≤ 1000000 := of_decide_eq_true hz
              rw [← r8.length]
              show acc.length < 2 ^ 24
              omega
            · rw [← hw5]
              exact wipe_ok hown k8
          · cases e2
      · cases e3
    · have ie : i = xs.length := by omega
      subst ie
      rw [List.drop_length] at e2
      unfold gather at e2
      cases e2
      have t9 : Stp mu w1 w2 [D] := ⟨t2.off, t2.grow, t2.keep, t2.new, fun j n => by
        obtain ⟨a, b, c⟩ := t2.un j n
        exact ⟨a.trans (wipeD_out fun z => n (.inl z)), b, c⟩⟩
      have t10 : Stp (fun i => i ∈ (CE.lc own tg wk it conds ce).mu) w w2 [D] := Stp.trans (R1 := []) (R2 := [D]) k k1 (t1.mono muL) (t9.mono muA)
      refine .inl ⟨it1.stop w2.H P2, h (backS w1 w2 own S6) (.ref D) [D] rfl (back_ok hown k1 k2 hS2 t2.grow) (back_stp t10 (fun i hi => muA i (.inl hi)) hS2) ?_⟩
      exact .lst hl2 (OwnL.of r2) (by simp)
  · cases er
end
end Ev

/-! EvN: comprehensions as expressions and stored; isinstance; a text turned about. -/
namespace Ev
open PySem PySem.Spec PyProof.Rows L2
section
variable {X : Cx} {Γ : List Fn} {shs : List Sh} {pos : Pos}
theorem e_lc {elt te iter : Expr} {ifs : List Expr} {scope : Scope} {own : List (Str × Nat)} {tg : Tg} {wi : TI} {wk : Wk} {it conds : CL} {ce : CE} {fz : Bool} (hc : X.calm = true) (hN : X.N.Nodup) (hi : PI X te iter wi) (bk : BlkOk X.N X.env.scope scope own)
    (hg : ∀ (s : Shared) (H : Hp) (C : Addr) (cl : List (Str × Addr)) (fp : List Addr), PG (X.blk s H scope (compEnvC scope cl C X.env) fp) te (gRd X.K tg)) (ht : ∀ (s : Shared) (H : Hp) (C : Addr) (cl : List (Str × Addr)) (fp : List Addr), PTs (X.blk s H scope (compEnvC scope cl C X.env) fp) ifs (rdTs X.K Γ shs conds))
    (he : ∀ (s : Shared) (H : Hp) (C : Addr) (cl : List (Str × Addr)) (fp : List Addr), PE (X.blk s H scope (compEnvC scope cl C X.env) fp) elt (rdE X.K Γ shs ce .sh)) (hs : ∀ x, foldedSetIterable iter X.env x = pure x)
    (hw : WkRd X.K Γ shs fz wi wk it) (hsh : tgSh shs tg = .sh) (ok : tgOk shs tg = true) (hown : ownSh shs (own.map (·.2)) = true) (wf : it.wf = true) (oks : okSlots fz shs it = true) (fo : lcOk (own.map (·.2)) tg it conds ce = true) :
    PE X (.ListComp elt [⟨te, iter, ifs, 0⟩] scope pos) (rdE X.K Γ shs (.lc (own.map (·.2)) tg wk it conds ce) (.lst .sh)) :=
  peI (pe_lc hc hN hi bk hg ht he hs) fun σ H Q q => lc_rd hw hsh ok hown wf oks fo q
theorem ps_asgI {te e : Expr} {t t' : TE} {g : TG} (h : PS X (.Assign [te] e pos) (tAsg t g)) (i : ∀ σ H Q, t' σ H Q → t σ H Q) : PS X (.Assign [te] e pos) (tAsg t' g) := psI h fun D σ H q => i _ _ _ q
theorem s_asg' {ret : Sh} {te : Expr} {e : Expr} {tg : Tg} {c : CE} (hg : PS X (.Assign [te] e pos) (tAsg (rdE X.K Γ shs c (tgSh shs tg)) (gRd X.K tg))) (ok : tgOk shs tg = true) :
    PS X (.Assign [te] e pos) (rdS X.K shs ret (CS.asg tg c).mu (CS.asg tg c).sg ((CS.asg tg c).run Γ)) := by
  refine psI hg fun D σ H q => ?_
  obtain ⟨w, r, S', rfl, k, er, h⟩ := q
  unfold CS.run at er
  obtain ⟨d, S1, e1, er⟩ := Res.bind_ok er
  split at er
  · rename_i S2 eb
    cases er
    refine ⟨w, d, S1, rfl, k, e1, fun w1 v R hs k1 t1 o => ?_⟩
    subst hs
    have t2 : Stp (fun i => i ∈ (CS.asg tg c).mu) w w1 R := t1.mono fun i hi => by unfold CS.mu; exact List.mem_append_right _ hi
    refine bind_ok (w := w) ok (fun i hi => by unfold CS.mu; exact List.mem_append_left _ hi) k1 t2 o eb fun σ' w' h1 h2 h3 h4 => h σ' w' h1 h2 h3 fun i hi => h4 i fun z => hi (by unfold CS.sg; exact z)
  · cases er
theorem s_asgLc {ret : Sh} {i : Nat} {y : Str} {py spos : Pos} {elt te iter : Expr} {ifs : List Expr} {scope : Scope} {own : List (Str × Nat)} {tg : Tg} {wi : TI} {wk : Wk} {it conds : CL} {ce : CE} {fz : Bool} (hc : X.calm = true) (hN : X.N.Nodup) (hy : X.N[i]? = some y) (hyl : X.env.scope.names.lookup y = some .local)
    (hsw : swapsWith (.ListComp elt [⟨te, iter, ifs, 0⟩] scope pos) (some (.Name y py)) spos.line X.env = pure true) (hi : PI X te iter wi) (bk : BlkOk X.N X.env.scope scope own)
    (hg : ∀ (s : Shared) (H : Hp) (C : Addr) (cl : List (Str × Addr)) (fp : List Addr), PG (X.blk s H scope (compEnvC scope cl C X.env) fp) te (gRd X.K tg)) (ht : ∀ (s : Shared) (H : Hp) (C : Addr) (cl : List (Str × Addr)) (fp : List Addr), PTs (X.blk s H scope (compEnvC scope cl C X.env) fp) ifs (rdTs X.K Γ shs conds))
    (he : ∀ (s : Shared) (H : Hp) (C : Addr) (cl : List (Str × Addr)) (fp : List Addr), PE (X.blk s H scope (compEnvC scope cl C X.env) fp) elt (rdE X.K Γ shs ce .sh)) (hs : ∀ x, foldedSetIterable iter X.env x = pure x)
    (hw : WkRd X.K Γ shs fz wi wk it) (hsh : tgSh shs tg = .sh) (ok : tgOk shs tg = true) (hown : ownSh shs (own.map (·.2)) = true) (wf : it.wf = true) (oks : okSlots fz shs it = true) (fo : lcOk (own.map (·.2)) tg it conds ce = true) (hsl : tgSh shs (.slot i) = .lst .sh) (hok : tgOk shs (.slot i) = true) :
    PS X (.Assign [.Name y py] (.ListComp elt [⟨te, iter, ifs, 0⟩] scope pos) spos) (rdS X.K shs ret (CS.asg (.slot i) (.lc (own.map (·.2)) tg wk it conds ce)).mu (CS.asg (.slot i) (.lc (own.map (·.2)) tg wk it conds ce)).sg ((CS.asg (.slot i) (.lc (own.map (·.2)) tg wk it conds ce)).run Γ)) := by
  refine s_asg' ?_ hok
  rw [hsl]
  exact ps_asgI (ps_setLc hc hN hy hyl hsw hi bk hg ht he hs) fun σ H Q q => lc_rd hw hsh ok hown wf oks fo q
theorem s_asgLcM {ret : Sh} {i : Nat} {y : Str} {py spos : Pos} {elt te iter : Expr} {ifs : List Expr} {scope : Scope} {own : List (Str × Nat)} {tg : Tg} {wi : TI} {wk : Wk} {it conds : CL} {ce : CE} {fz : Bool} (hc : X.calm = true) (hN : X.N.Nodup) (hy : X.N[i]? = some y) (hyl : X.env.scope.names.lookup y = some .local)
    (hsw : swapsWith (.ListComp elt [⟨te, iter, ifs, 0⟩] scope pos) (some (.Name y py)) spos.line X.env = pure true) (hi : PI X te iter wi) (bk : BlkOk X.N X.env.scope scope own)
    (hg : ∀ (s : Shared) (H : Hp) (C : Addr) (cl : List (Str × Addr)) (fp : List Addr), PG (X.blk s H scope (compEnvC scope cl C X.env) fp) te (gRd X.K tg)) (ht : ∀ (s : Shared) (H : Hp) (C : Addr) (cl : List (Str × Addr)) (fp : List Addr), PTs (X.blk s H scope (compEnvC scope cl C X.env) fp) ifs (rdTs X.K Γ shs conds))
    (he : ∀ (s : Shared) (H : Hp) (C : Addr) (cl : List (Str × Addr)) (fp : List Addr), PE (X.blk s H scope (compEnvC scope cl C X.env) fp) elt (rdE X.K Γ shs ce .sh)) (hs : ∀ x, foldedSetIterable iter X.env x = pure x)
    (hw : WkRd X.K Γ shs fz wi wk it) (hsh : tgSh shs tg = .sh) (ok : tgOk shs tg = true) (hown : ownSh shs (own.map (·.2)) = true) (wf : it.wf = true) (oks : okSlots fz shs it = true) (fo : lcOk (own.map (·.2)) tg it conds ce = true) (hsl : tgSh shs (.slot i) = .sh) (hok : tgOk shs (.slot i) = true) :
    PS X (.Assign [.Name y py] (.ListComp elt [⟨te, iter, ifs, 0⟩] scope pos) spos) (rdS X.K shs ret (CS.asg (.slot i) (.lc (own.map (·.2)) tg wk it conds ce)).mu (CS.asg (.slot i) (.lc (own.map (·.2)) tg wk it conds ce)).sg ((CS.asg (.slot i) (.lc (own.map (·.2)) tg wk it conds ce)).run Γ)) := by
  refine s_asg' ?_ hok
  rw [hsl]
  exact ps_asgI (ps_setLc hc hN hy hyl hsw hi bk hg ht he hs) fun σ H Q q => lc_rd hw hsh ok hown wf oks fo (rdE_melt (s := .lst .sh) rfl q)
/-! ### isinstance -/
theorem e_isi {a tE : Expr} {tn : String} {as : CL} {ps : Pos} (ha : PAg X Γ shs [a] as) (hT : PE X tE (tC (.ty tn))) (nT : noStar tE = true) (wf : as.wf = true) (ok : okSlots true shs as = true) (hg : Gl X "isinstance") (hm : X.mg "isinstance" = none) :
    PE X (.Call (.Name "isinstance" ps) [a, tE] [] pos) (rdE X.K Γ shs (.prim (.isi [tn]) as) .sh) := by
  obtain ⟨ta, h1, e⟩ := ha.one
  have st : starEach [a, tE] X.env = (false, eval a X.env) :: starEach [tE] X.env := by
    cases ha with
    | cons n _ _ => exact starEach_cons n
    | slot n _ _ => exact starEach_cons n
  have st2 : starEach [tE] X.env = (false, eval tE X.env) :: starEach [] X.env := starEach_cons nT
  refine peI (pe_callB call_isi hg hm PyProof.Rows.boot_isinstance (pa_cons h1 (pa_cons hT pa_nil st2) st) (by decide) (by decide) st (backTo_any _ _ (by rw [st2]; rfl))) fun σ H Q h => ?_
  have z := prim_rd pr_isi1 wf ok h
  rw [e] at z
  exact z
/-! ### a text turned about -/
theorem revIx (n : Nat) : Builtin.Str.strSliceIndices none none (-1) n = (List.range n).reverse := by
  show sliceRange ((n : Int) - 1) (-1) (-1) = _
  rw [PySem.W.krv_sliceRange, PySem.W.krv_range]
theorem revIxS (z : Str) : (⟨((Builtin.Str.strSliceIndices none none (-1) z.length).filterMap (z.cps[·]?)).toArray⟩ : Str) = ⟨z.cps.toList.reverse.toArray⟩ := by
  rw [revIx, List.filterMap_reverse]
  have := PySem.W.krv_all z.cps
  show (⟨((List.range z.cps.size).filterMap (z.cps[·]?)).reverse.toArray⟩ : Str) = _
  rw [this]
theorem pe_rev {e : Expr} {te : TE} {k : Nat} {p1 p2 p3 pos : Pos} (he : PE X e te) : PE X (.Subscript e (.Slice none none (some (.UnaryOp .USub (.Constant (.int 1) k p1) p2)) p3) pos) (fun σ H Q => te σ H fun x H1 => rRev X.K x H1 Q) := by
  refine ⟨fun pins s σ H Q I h => ?_⟩
  refine Subscript_ (thn (he.run pins s σ H _ I h) fun v s1 ⟨x, H1, I1, r1, q1⟩ => ?_)
  have hst : PO X (some (.UnaryOp .USub (.Constant (.int 1) k p1) p2)) (tPart (tUn (rU fun i => .int (-i)) (tC (.int 1)))) := po_some (pe_un un_neg pe_int)
  refine wpAny_Slice (thn (po_none.run pins s1 σ H1 (fun o H2 => o = none ∧ H2 = H1) I1 ⟨rfl, rfl⟩) fun vl s2 ⟨l, H2, I2, pl, el, e2⟩ => ?_)
  subst el e2
  refine thn (po_none.run pins s2 σ H2 (fun o H3 => o = none ∧ H3 = H2) I2 ⟨rfl, rfl⟩) fun vu s3 ⟨u, H3, I3, pu, eu, e3⟩ => ?_
  subst eu e3
  refine thn (hst.run pins s3 σ H3 (fun o H4 => o = some (-1) ∧ H4 = H3) I3 ⟨1, rfl, -1, rfl, rfl, rfl⟩) fun vs s4 ⟨o, H4, I4, ps, eo, e4⟩ => ?_
  subst eo e4
  have I5 : Inv X pins σ H4 { s4 with heap := s4.heap.push { cls := .type "slice", data := .fields #[vl, vu, vs] } } := I4.kept (t' := s4.toks) fun b ob q => Heap.get?_push_of_some _ q
  rcases q1 with ⟨a, xs, ex, hx, q⟩ | ⟨z, ex, hz, q⟩
  · subst ex
    cases r1
    obtain ⟨its, r, ht, hz⟩ := I5.list hx
    have hlen := r.length
    show wpAny (model X.prog X.w) X.A (subscriptTail e (.Slice none none (some (.UnaryOp .USub (.Constant (.int 1) k p1) p2)) p3) (.ref a) (.ref s4.heap.objs.size)) (EP X pins σ Q) X.xe { s4 with heap := s4.heap.push { cls := .type "slice", data := .fields #[vl, vu, vs] } }
    refine tail_any (ops := [.ref a, .ref s4.heap.objs.size]) ht.isList.typeIs (PySem.slot_list_getitem.lookup) ?_ (by with_unfolding_all rfl)
    refine wpAny_getItem_list_slice ht.isList (Heap.IsSliceOf.new _ vl vu vs) pl pu ps (by decide) ?_ (by rw [List.size_toArray]; omega)
    rw [PySem.W.krv_pick]
    refine ⟨.ref _, _, I5.laid (t' := s4.toks) (o := .lst xs.reverse) (fun b ob q => Heap.get?_push_of_some _ q) (Nat.le_refl _) ?_, rfl, q _ (I5.hok.fresh (Nat.le_refl _))⟩
    exact ⟨by rw [List.length_reverse]; exact hz, _, 0, r.reverse, Heap.get?_push_size _ rfl⟩
  subst ex
  obtain ⟨t, rfl⟩ := r1
  obtain ⟨l', rfl, el'⟩ := IsPart.raw pl
  obtain ⟨u', rfl, eu'⟩ := IsPart.raw pu
  obtain ⟨s', rfl, es'⟩ := IsPart.raw ps
  show wpAny (model X.prog X.w) X.A (subscriptTail e (.Slice none none (some (.UnaryOp .USub (.Constant (.int 1) k p1) p2)) p3) (.str z t) (.ref s4.heap.objs.size)) (EP X pins σ Q) X.xe { s4 with heap := s4.heap.push { cls := .type "slice", data := .fields #[partValue l', partValue u', partValue s'] } }
  refine tail_any (ops := [.str z t, .ref s4.heap.objs.size]) (typeIs_str _ z t) (F.slot_str_getitem.lookup) ?_ (by with_unfolding_all rfl)
  refine wpAny_getItem_str_slice (l := l') (u := u') (st := s') ⟨_, Heap.get?_push_size _ rfl, rfl, rfl⟩ (by rw [es']; rfl) ?_
  have el : slicePicked z l' u' s' = Builtin.Str.strSliceIndices none none (-1) z.length := by
    unfold slicePicked
    rw [el', eu', es']
    rfl
  unfold sliceMade
  rw [el, es']
  rw [if_neg (by simp)]
  rw [revIxS]
  refine ⟨?_, .str _, _, I5.tok _, ⟨_, rfl⟩, q⟩
  show (z.cps.toList.reverse.toArray).size ≤ sizeLine
  rw [List.size_toArray, List.length_reverse, Array.length_toList]
  exact hz
theorem e_rev {e : Expr} {as : CL} {k : Nat} {p1 p2 p3 : Pos} (ha : PAg X Γ shs [e] as) (wf : as.wf = true) (ok : okSlots true shs as = true) : PE X (.Subscript e (.Slice none none (some (.UnaryOp .USub (.Constant (.int 1) k p1) p2)) p3) pos) (rdE X.K Γ shs (.prim .rev as) .sh) := by
  obtain ⟨ta, h1, e⟩ := ha.one
  refine peI (pe_rev h1) fun σ H Q h => ?_
  have z := prim_rd pr_rev wf ok h
  rw [e] at z
  exact z
end
end Ev

/-! EvO: from the text to codes: names, operators, calls of what is built in. -/
namespace Ev
open PySem PySem.Spec PyProof.Rows L2
def nEq : List Nat → List Nat → Bool
  | [], [] => true
  | a :: as, b :: bs => Nat.beq a b && nEq as bs
  | _, _ => false
theorem nEq_ok : ∀ {a b : List Nat}, nEq a b = true → a = b
  | [], [], _ => rfl
  | a :: as, b :: bs, h => by
    unfold nEq at h
    obtain ⟨h1, h2⟩ := Bool.and_eq_true_iff.mp h
    rw [Nat.eq_of_beq_eq_true h1, nEq_ok h2]
theorem nEq_refl : ∀ a : List Nat, nEq a a = true
  | [] => rfl
  | a :: as => by unfold nEq; rw [Nat.beq_refl, nEq_refl as]; rfl
def sEq (x y : Str) : Bool := nEq x.cps.toList y.cps.toList
theorem sEq_ok {x y : Str} (h : sEq x y = true) : x = y := by
  cases x with
  | mk a => cases y with
    | mk b => exact congrArg Str.mk (Array.toList_inj.mp (nEq_ok h))
theorem sEq_refl (x : Str) : sEq x x = true := nEq_refl _
def lk {α : Type} : List (Str × α) → Str → Option α
  | [], _ => none
  | (y, k) :: r, x => if sEq x y then some k else lk r x
theorem lk_eq {α : Type} : ∀ {l : List (Str × α)} {x : Str}, l.lookup x = lk l x
  | [], _ => rfl
  | (y, k) :: r, x => by
    unfold lk
    rw [List.lookup_cons]
    by_cases h : x = y
    · subst h
      rw [beq_self_eq_true, sEq_refl]; rfl
    · have h1 : (x == y) = false := by simpa using h
      have h2 : sEq x y = false := by
        cases q : sEq x y with
        | false => rfl
        | true => exact absurd (sEq_ok q) h
      rw [h1, h2]
      exact lk_eq
def ixOf : List Str → Str → Option Nat
  | [], _ => none
  | y :: r, x => if sEq x y then some 0 else (ixOf r x).map (· + 1)
theorem ixOf_ok : ∀ {l : List Str} {x : Str} {i : Nat}, ixOf l x = some i → l[i]? = some x
  | [], _, _, h => by cases h
  | y :: r, x, i, h => by
    unfold ixOf at h
    split at h
    · rename_i e
      cases h
      rw [sEq_ok e]; rfl
    · obtain ⟨j, hj, rfl⟩ := Option.map_eq_some_iff.mp h
      simpa using ixOf_ok hj
/-- what a global name stands for -/
inductive Gk where
  | fn (gi : Nat) (g : Sg) | con (d : D)
structure Ct where
  N : List Str
  shs : List Sh
  sc : Scope
  fsc : Option Scope
  gs : List (Str × Gk)
def tIsinstance : Str := "isinstance"
def blts : List Str := ["len", "int", "ord", "isinstance", "range", "enumerate", "bool", "str", "tuple", "list", "dict"]
/-- a constant's value -/
inductive ConOk : D → Value → V → Prop
  | int (i : Int) (t : Tok) : ConOk (.int i) (.int i t) (.int i)
  | str (x : Str) (t : Tok) : ConOk (.str x) (.str x t) (.str x)
  | bl (b : Bool) : ConOk (.bl b) (.bool b) (.bl b)
def GkOk (X : Cx) (Γ : List Fn) (x : Str) : Gk → Prop
  | .fn gi g => ∃ kk fn, FnAt X kk g fn ∧ Room kk X.A ∧ x = g.name ∧ Γ[gi]? = some fn
  | .con d => ∃ u v, X.mg x = some u ∧ RelV v u ∧ ∀ G, Rep X.K G d v
structure CtOk (C : Ct) (Γ : List Fn) (X : Cx) : Prop where
  N : X.N = C.N
  nd : C.N.Nodup
  calm : X.calm = true
  xe : X.xe = fun _ _ => False
  sc : X.env.scope = C.sc
  kind : C.sc.kind = .function
  fn : ∀ x, (∀ s, C.fsc = some s → s.names.lookup x = some .cell) → X.fn x = true
  gs : ∀ x k, lk C.gs x = some k → GkOk X Γ x k
  bl : ∀ x ∈ blts, X.mg x = none
  un : X.A.units + 65 < cLine
def Ct.blk (C : Ct) (scope : Scope) : Ct := { C with sc := relS scope C.sc, fsc := some scope }
section
variable {C : Ct} {Γ : List Fn} {X : Cx}
theorem CtOk.blk (O : CtOk C Γ X) {scope : Scope} (hk : scope.kind = .function) (s : Shared) (H : Hp) (c : Addr) (cl : List (Str × Addr)) (fp : List Addr) : CtOk (C.blk scope) Γ (X.blk s H scope (compEnvC scope cl c X.env) fp) where
  N := O.N
  nd := O.nd
  calm := O.calm
  xe := rfl
  sc := by
    show relS scope X.env.scope = relS scope C.sc
    rw [O.sc]
  kind := hk
  fn := fun x h => by
    show (scope.names.lookup x == some NameKind.cell) = true
    rw [h scope rfl]; rfl
  gs := fun x k h => by
    have := O.gs x k h
    cases k with
    | fn gi g =>
      obtain ⟨kk, fn, F, r, e, q⟩ := this
      exact ⟨kk, fn, ⟨F.len, F.ar, F.ex⟩, r, e, q⟩
    | con d => exact this
  bl := O.bl
  un := O.un
/-! names -/
def okName (x : Str) : Bool := !(x == ("__debug__" : Str)) && !(x == ("__classdict__" : Str)) && !(x == ("__name__" : Str))
def plainB (x : Str) : Bool := !(nEq x.cps.toList [95, 95, 100, 101, 98, 117, 103, 95, 95]) && !(nEq x.cps.toList [95, 95, 99, 108, 97, 115, 115, 100, 105, 99, 116, 95, 95]) && !(nEq x.cps.toList [95, 95, 110, 97, 109, 101, 95, 95])
theorem ne_of_nEq {x y : Str} {l : List Nat} (hy : y.cps.toList = l) (h : nEq x.cps.toList l = false) : (x == y) = false := by
  cases q : x == y with
  | false => rfl
  | true =>
    have : x = y := by simpa using q
    subst this
    rw [hy, nEq_refl] at h
    cases h
theorem plain_debug {x : Str} (h : plainB x = true) : (x == ("__debug__" : Str)) = false := by
  unfold plainB at h
  simp only [Bool.and_eq_true, Bool.not_eq_true'] at h
  exact ne_of_nEq (by decide +kernel) h.1.1
theorem plain_classdict {x : Str} (h : plainB x = true) : (x == ("__classdict__" : Str)) = false := by
  unfold plainB at h
  simp only [Bool.and_eq_true, Bool.not_eq_true'] at h
  exact ne_of_nEq (by decide +kernel) h.1.2
theorem plain_name {x : Str} (h : plainB x = true) : x ≠ ("__name__" : Str) := by
  unfold plainB at h
  simp only [Bool.and_eq_true, Bool.not_eq_true'] at h
  have := ne_of_nEq (x := x) (y := "__name__") (by decide +kernel) h.2
  simpa using this
def visB (sc : Scope) (x : Str) : Bool := match lk sc.names x with
  | some .local => true
  | some .cell => true
  | some .free => true
  | _ => false
theorem vis_ok {sc : Scope} {x : Str} (h : visB sc x = true) : Vis sc x := by
  unfold visB at h
  unfold Vis
  rw [lk_eq]
  split at h
  · exact .inl (by assumption)
  · exact .inr (.inl (by assumption))
  · exact .inr (.inr (by assumption))
  · cases h
def slotOf (C : Ct) : Expr → Option Nat
  | .Name x _ => if visB C.sc x && plainB x then ixOf C.N x else none
  | _ => none
theorem slot_ok (O : CtOk C Γ X) {e : Expr} {i : Nat} (h : slotOf C e = some i) : PE X e (tVar i) ∧ noStar e = true := by
  unfold slotOf at h
  split at h
  · split at h
    · rename_i hc
      obtain ⟨h1, h2⟩ := Bool.and_eq_true_iff.mp hc
      exact ⟨pe_var (by rw [O.N]; exact ixOf_ok h) (by rw [O.sc]; exact vis_ok h1) (plain_debug h2) (plain_classdict h2), rfl⟩
    · cases h
  · cases h
def glB (C : Ct) (x : Str) : Bool := (match lk C.sc.names x with
  | some .globalImplicit => true
  | _ => false) && plainB x
theorem gl_ok (O : CtOk C Γ X) {x : Str} (h : glB C x = true) : Gl X x ∧ plainB x = true := by
  unfold glB at h
  obtain ⟨h1, h2⟩ := Bool.and_eq_true_iff.mp h
  refine ⟨?_, h2⟩
  show X.env.scope.names.lookup x = some .globalImplicit
  rw [O.sc, lk_eq]
  split at h1
  · assumption
  · cases h1
/-- the name is one that is built in -/
def bltB (C : Ct) (x y : Str) : Bool := sEq x y && glB C x && (blts.any fun z => sEq z y)
theorem blt_ok (O : CtOk C Γ X) {x y : Str} (h : bltB C x y = true) : x = y ∧ Gl X x ∧ plainB x = true ∧ X.mg x = none := by
  unfold bltB at h
  simp only [Bool.and_eq_true, List.any_eq_true] at h
  obtain ⟨⟨h1, h2⟩, z, hz, h3⟩ := h
  obtain ⟨g, p⟩ := gl_ok O h2
  have e := sEq_ok h1
  refine ⟨e, g, p, ?_⟩
  rw [e, ← sEq_ok h3]
  exact O.bl z hz
/-! shapes -/
def shOk (a b : Sh) : Bool := a == b || (b == .sh && a.ok)
theorem sh_ok {e : Expr} {c : CE} {a b : Sh} (h : PE X e (rdE X.K Γ C.shs c a)) (k : shOk a b = true) : PE X e (rdE X.K Γ C.shs c b) := by
  unfold shOk at k
  simp only [Bool.or_eq_true, Bool.and_eq_true, beq_iff_eq] at k
  rcases k with rfl | ⟨rfl, k⟩
  · exact h
  · exact e_melt h k
/-! operators -/
def opPr : Operator → Sh → Option Pr
  | .Add, .sh => some .add
  | .Add, .lst .sh => some .addL
  | .Sub, .sh => some .sub
  | .Mult, .sh => some .mul
  | .FloorDiv, .sh => some .fdiv
  | .Mod, .sh => some .mod
  | .Pow, .sh => some .pow
  | _, _ => none
theorem opPr_ok {op : Operator} {s : Sh} {p : Pr} (h : opPr op s = some p) : ∃ r, OpR X (binaryOp op) r ∧ PrimRd false X.K p s (r2 r) := by
  unfold opPr at h
  split at h <;> cases h
  · exact ⟨_, op_addA, pr_add⟩
  · exact ⟨_, op_addA, pr_addL⟩
  · refine ⟨rI (fun _ _ => True) fun i j => .int (i - j), ?_, pr_int2 (C := fun _ _ => True) (f := fun i j => some (i - j)) rfl fun i j z e => by cases e; exact ⟨trivial, rfl⟩⟩
    intro pins s σ H x y v u Q I rx ry h
    obtain ⟨i, j, h1, h2, _, q⟩ := h
    exact op_sub pins s σ H x y v u Q I rx ry ⟨i, j, h1, h2, q⟩
  · exact ⟨_, op_mulA, pr_int2 rfl fun i j z e => mul_ok e⟩
  · exact ⟨_, op_fdivW, pr_int2 rfl fun i j z e => div_ok e⟩
  · exact ⟨_, op_mod, pr_int2 rfl fun i j z e => mod_ok e⟩
  · exact ⟨_, op_pow, pr_int2 rfl fun i j z e => pow_ok e⟩
def cmpPr : CmpOp → Option (Pr × Bool)
  | .Eq => some (.eq, true)
  | .NotEq => some (.ne, true)
  | .Lt => some (.lt, false)
  | .LtE => some (.le, false)
  | .Gt => some (.gt, false)
  | .GtE => some (.ge, false)
  | _ => none
theorem cmpPr_ok (O : CtOk C Γ X) {op : CmpOp} {p : Pr} {fz : Bool} (h : cmpPr op = some (p, fz)) : (∃ r, OpR X (compareOp op) r ∧ PrimRd fz X.K p .sh (r2 r)) ∧ ∀ b, behindInMarks op b = false := by
  unfold cmpPr at h
  split at h <;> cases h
  · exact ⟨⟨_, op_eqD (by have := O.un; omega), pr_eq⟩, fun b => by cases b <;> first | rfl | (simp [behindInMarks])⟩
  · exact ⟨⟨_, op_neD (by have := O.un; omega), pr_ne⟩, fun b => by cases b <;> first | rfl | (simp [behindInMarks])⟩
  · exact ⟨⟨_, op_lt, pr_cmp rfl⟩, fun b => by cases b <;> first | rfl | (simp [behindInMarks])⟩
  · exact ⟨⟨_, op_le, pr_cmp rfl⟩, fun b => by cases b <;> first | rfl | (simp [behindInMarks])⟩
  · exact ⟨⟨_, op_gt, pr_cmp rfl⟩, fun b => by cases b <;> first | rfl | (simp [behindInMarks])⟩
  · exact ⟨⟨_, op_ge, pr_cmp rfl⟩, fun b => by cases b <;> first | rfl | (simp [behindInMarks])⟩
end
end Ev

/-! EvP: from the text to codes: expressions. -/
namespace Ev
open PySem PySem.Spec PyProof.Rows L2
abbrev RE := Ct → Sh → Expr → Option CE
abbrev RT := Ct → Expr → Option CE
def SndE (R : RE) : Prop := ∀ C s e c, R C s e = some c → ∀ Γ X, CtOk C Γ X → PE X e (rdE X.K Γ C.shs c s)
def SndT (T : RT) : Prop := ∀ C e c, T C e = some c → ∀ Γ X, CtOk C Γ X → PT X e (rdT X.K Γ C.shs c)
def ownSlot (C : Ct) (e : Expr) : Option Nat := match slotOf C e with
  | some i => (match C.shs[i]? with
    | some .sh => none
    | some _ => some i
    | none => none)
  | none => none
theorem ownSlot_ok {C : Ct} {e : Expr} {i : Nat} (h : ownSlot C e = some i) : slotOf C e = some i := by
  unfold ownSlot at h
  split at h
  · split at h
    · cases h
    · cases h; assumption
    · cases h
  · cases h
section
variable (R : RE) (T : RT) (C : Ct)
/-- operands -/
def cA : List Expr → Option CL
  | [] => some .nil
  | e :: es => if noStar e then (match ownSlot C e with
    | some i => (cA es).map (CL.slot i)
    | none => (match R C .sh e with
      | some c => (cA es).map (CL.cons c)
      | none => none)) else none
/-- arguments of a def -/
def cAm : List Sh → List Expr → Option CL
  | [], [] => some .nil
  | .sh :: ms, e :: es => if noStar e then (match R C .sh e with
    | some c => (cAm ms es).map (CL.cons c)
    | none => none) else none
  | _ :: ms, e :: es => (match slotOf C e with
    | some i => (cAm ms es).map (CL.slot i)
    | none => none)
  | _, _ => none
def cAc : List Expr → Option CL
  | [] => some .nil
  | e :: es => if noStar e then (match R C .sh e with
    | some c => (cAc es).map (CL.cons c)
    | none => none) else none
variable {R T C} {Γ : List Fn} {X : Cx}
theorem cA_ok (hR : SndE R) (O : CtOk C Γ X) : ∀ {es : List Expr} {as : CL}, cA R C es = some as → PAg X Γ C.shs es as
  | [], as, h => by unfold cA at h; cases h; exact .nil
  | e :: es, as, h => by
    unfold cA at h
    split at h
    · rename_i hn
      split at h
      · rename_i i hi
        obtain ⟨r, hr, rfl⟩ := Option.map_eq_some_iff.mp h
        exact .slot hn (slot_ok O (ownSlot_ok hi)).1 (cA_ok hR O hr)
      · split at h
        · rename_i c hc
          obtain ⟨r, hr, rfl⟩ := Option.map_eq_some_iff.mp h
          exact .cons hn (hR _ _ _ _ hc _ _ O) (cA_ok hR O hr)
        · cases h
    · cases h
theorem cAc_ok (hR : SndE R) (O : CtOk C Γ X) : ∀ {es : List Expr} {as : CL}, cAc R C es = some as → PAg X Γ C.shs es as ∧ allCons as = true
  | [], as, h => by unfold cAc at h; cases h; exact ⟨.nil, rfl⟩
  | e :: es, as, h => by
    unfold cAc at h
    split at h
    · rename_i hn
      split at h
      · rename_i c hc
        obtain ⟨r, hr, rfl⟩ := Option.map_eq_some_iff.mp h
        obtain ⟨a, b⟩ := cAc_ok hR O hr
        exact ⟨.cons hn (hR _ _ _ _ hc _ _ O) a, b⟩
      · cases h
    · cases h
theorem cAm_ok (hR : SndE R) (O : CtOk C Γ X) : ∀ {ms : List Sh} {es : List Expr} {as : CL}, cAm R C ms es = some as → PAg X Γ C.shs es as
  | [], [], as, h => by unfold cAm at h; cases h; exact .nil
  | [], _ :: _, as, h => by unfold cAm at h; cases h
  | m :: ms, [], as, h => by cases m <;> (unfold cAm at h; cases h)
  | m :: ms, e :: es, as, h => by
    have slot : (match slotOf C e with
    | some i => (cAm R C ms es).map (CL.slot i)
    | none => none) = some as → PAg X Γ C.shs (e :: es) as := fun h => by
      split at h
      · rename_i i hi
        obtain ⟨r, hr, rfl⟩ := Option.map_eq_some_iff.mp h
        obtain ⟨a, b⟩ := slot_ok O hi
        exact .slot b a (cAm_ok hR O hr)
      · cases h
    cases m with
    | sh =>
      unfold cAm at h
      split at h
      · rename_i hn
        split at h
        · rename_i c hc
          obtain ⟨r, hr, rfl⟩ := Option.map_eq_some_iff.mp h
          exact .cons hn (hR _ _ _ _ hc _ _ O) (cAm_ok hR O hr)
        · cases h
      · cases h
    | frz => unfold cAm at h; exact slot h
    | tp => unfold cAm at h; exact slot h
    | lst s => unfold cAm at h; exact slot h
    | dct s => unfold cAm at h; exact slot h
end
def mkPrim (C : Ct) (p : Pr) (fz : Bool) (as : CL) : Option CE := if as.wf && okSlots fz C.shs as then some (.prim p as) else none
theorem mkPrim_ok {C : Ct} {p : Pr} {fz : Bool} {as : CL} {c : CE} (h : mkPrim C p fz as = some c) : c = .prim p as ∧ as.wf = true ∧ okSlots fz C.shs as = true := by
  unfold mkPrim at h
  split at h
  · rename_i z
    cases h
    obtain ⟨a, b⟩ := Bool.and_eq_true_iff.mp z
    exact ⟨rfl, a, b⟩
  · cases h
section
variable (R : RE) (T : RT) (C : Ct) (s : Sh)
/-- a primitive over operands -/
def prE (p : Pr) (fz : Bool) (es : List Expr) : Option CE := match cA R C es with
  | some as => mkPrim C p fz as
  | none => none
def stName (e : Expr) : Option CE := match e with
  | .Name x _ => (match slotOf C e with
    | some i => (match C.shs[i]? with
      | some .sh => if s == .sh then some (.var i) else none
      | some s0 => if shOk s0 s then some (.mv i) else none
      | none => none)
    | none => if glB C x && s == .sh then (match lk C.gs x with
      | some (.con d) => some (.k d)
      | _ => none) else none)
  | _ => none
def stConst : Const → Option CE
  | .none => some (.k .non)
  | .bool b => some (.k (.bl b))
  | .int i => some (.k (.int i))
  | .str x => some (.k (.str x))
  | _ => none
def stCmp (op : CmpOp) (a b : Expr) : Option CE := match op, b with
  | .Is, .Constant .none _ _ => prE R C .isN true [a]
  | .IsNot, .Constant .none _ _ => prE R C .notN true [a]
  | _, _ => (match cmpPr op with
    | some (p, fz) => prE R C p fz [a, b]
    | none => none)
def stBool (op : BoolOp) : List Expr → Option CE
  | [] => none
  | [a] => R C .sh a
  | a :: b :: r => (match R C .sh a, stBool op (b :: r) with
    | some ca, some cb => some (match op with
      | .And => .and ca cb
      | .Or => .or ca cb)
    | _, _ => none)
def stSub (a b : Expr) : Option CE := match b with
  | .Slice none none none _ => prE R C (.slice false false) true [a]
  | .Slice (some l) none none _ => prE R C (.slice true false) true [a, l]
  | .Slice none (some h) none _ => prE R C (.slice false true) true [a, h]
  | .Slice (some l) (some h) none _ => prE R C (.slice true true) true [a, l, h]
  | .Slice none none (some (.UnaryOp .USub (.Constant (.int 1) _ _) _)) _ => prE R C .rev true [a]
  | .Slice _ _ _ _ => none
  | _ => prE R C .ix true [a, b]
variable {R T C s} {Γ : List Fn} {X : Cx} {c : CE} {pos : Pos}
theorem prE_ok (hR : SndE R) (O : CtOk C Γ X) {p : Pr} {fz : Bool} {es : List Expr} (h : prE R C p fz es = some c) : ∃ as, c = .prim p as ∧ PAg X Γ C.shs es as ∧ as.wf = true ∧ okSlots fz C.shs as = true := by
  unfold prE at h
  split at h
  · rename_i as ha
    obtain ⟨a, b, c⟩ := mkPrim_ok h
    exact ⟨as, a, cA_ok hR O ha, b, c⟩
  · cases h
theorem stName_ok (O : CtOk C Γ X) {e : Expr} (h : stName C s e = some c) : PE X e (rdE X.K Γ C.shs c s) := by
  unfold stName at h
  split at h
  · rename_i x p
    split at h
    · rename_i i hi
      obtain ⟨hv, _⟩ := slot_ok O hi
      split at h
      · rename_i hs
        split at h
        · rename_i hz
          cases h
          have : s = .sh := by simpa using hz
          subst this
          exact e_var hv hs
        · cases h
      · rename_i s0 _ hs
        split at h
        · rename_i hk
          cases h
          exact sh_ok (e_mv hv hs) hk
        · cases h
      · cases h
    · split at h
      · rename_i hz
        obtain ⟨h1, h2⟩ := Bool.and_eq_true_iff.mp hz
        have : s = .sh := by simpa using h2
        subst this
        obtain ⟨g, pl⟩ := gl_ok O h1
        split at h
        · rename_i d hd
          cases h
          obtain ⟨u, v, hm, r, rp⟩ := O.gs _ _ hd
          exact e_const (pe_glob g hm r (plain_debug pl)) rp
        · cases h
      · cases h
  · cases h
theorem stConst_ok {k : Const} {j : Nat} (h : stConst k = some c) : PE X (.Constant k j pos) (rdE X.K Γ C.shs c .sh) := by
  unfold stConst at h
  split at h <;> cases h
  · exact e_const pe_non fun _ => .non
  · exact e_const pe_bl fun _ => .bl _
  · exact e_const pe_int fun _ => .int _
  · exact e_const pe_str fun _ => .str _
theorem stCmp_ok (hR : SndE R) (O : CtOk C Γ X) {op : CmpOp} {a b : Expr} (h : stCmp R C op a b = some c) : PE X (.Compare a [op] [b] pos) (rdE X.K Γ C.shs c .sh) ∧ PT X (.Compare a [op] [b] pos) (rdT X.K Γ C.shs c) := by
  unfold stCmp at h
  split at h
  · obtain ⟨as, rfl, ha, wf, ok⟩ := prE_ok hR O h
    exact ⟨e_isN ha wf ok, t_isN ha wf ok⟩
  · obtain ⟨as, rfl, ha, wf, ok⟩ := prE_ok hR O h
    exact ⟨e_notN ha wf ok, t_notN ha wf ok⟩
  · split at h
    · rename_i p fz hp
      obtain ⟨⟨r, ho, hr⟩, hm⟩ := cmpPr_ok O hp
      obtain ⟨as, rfl, ha, wf, ok⟩ := prE_ok hR O h
      exact ⟨e_cmp ho hr (hm _) ha wf ok, t_cmp ho hr (hm _) ha wf ok⟩
    · cases h
theorem stBool_ok (hR : SndE R) (O : CtOk C Γ X) {op : BoolOp} : ∀ {es : List Expr} {c : CE}, stBool R C op es = some c → PE X (.BoolOp op es pos) (rdE X.K Γ C.shs c .sh)
  | [], c, h => by unfold stBool at h; cases h
  | [a], c, h => by
    unfold stBool at h
    exact pe_one (hR _ _ _ _ h _ _ O)
  | a :: b :: r, c, h => by
    unfold stBool at h
    split at h
    · rename_i ca cb h1 h2
      cases h
      have q1 := hR _ _ _ _ h1 _ _ O
      have q2 := stBool_ok hR O h2
      cases op with
      | And => exact e_and q1 q2
      | Or => exact e_or q1 q2
    · cases h
theorem stSub_ok (hR : SndE R) (O : CtOk C Γ X) {a b : Expr} (h : stSub R C a b = some c) : PE X (.Subscript a b pos) (rdE X.K Γ C.shs c .sh) := by
  unfold stSub at h
  split at h
  · obtain ⟨as, rfl, ha, wf, ok⟩ := prE_ok hR O h
    exact e_sl00 ha wf ok
  · obtain ⟨as, rfl, ha, wf, ok⟩ := prE_ok hR O h
    exact e_sl10 ha wf ok
  · obtain ⟨as, rfl, ha, wf, ok⟩ := prE_ok hR O h
    exact e_sl01 ha wf ok
  · obtain ⟨as, rfl, ha, wf, ok⟩ := prE_ok hR O h
    exact e_sl11 ha wf ok
  · obtain ⟨as, rfl, ha, wf, ok⟩ := prE_ok hR O h
    exact e_rev ha wf ok
  · cases h
  · rename_i n1 n2 n3 n4 n5 n6
    obtain ⟨as, rfl, ha, wf, ok⟩ := prE_ok hR O h
    refine e_ix ha wf ok (plainIx_of ?_)
    cases b <;> first | rfl | exact absurd rfl (n6 _ _ _ _)
end
end Ev

/-! EvQ: from the text to codes: calls, methods, comprehensions; expressions, tests. -/
namespace Ev
open PySem PySem.Spec PyProof.Rows L2
section
variable (R : RE) (T : RT) (C : Ct) (s : Sh)
def tLen : Str := "len"
def tInt : Str := "int"
def tOrd : Str := "ord"
def tRange : Str := "range"
def tEnum : Str := "enumerate"
def tBool : Str := "bool"
def tStr : Str := "str"
def tTuple : Str := "tuple"
def tList : Str := "list"
def tJoin : Str := "join"
def tIndex : Str := "index"
def tAppend : Str := "append"
def tPop : Str := "pop"
def tReverse : Str := "reverse"
def tClear : Str := "clear"
/-- the class's name behind isinstance -/
def clsOf : Expr → Option String
  | .Name x _ => if bltB C x tInt then some "int" else if bltB C x tBool then some "bool" else if bltB C x tStr then some "str" else if bltB C x tTuple then some "tuple" else if bltB C x tList then some "list" else none
  | _ => none
def stCall (x : Str) (es : List Expr) : Option CE := match lk C.gs x with
  | some (.fn gi g) => if glB C x && shOk g.ret s then (match cAm R C g.ms es with
    | some as => if as.wf && as.fits C.shs g.ms && as.distinct then some (.call gi as) else none
    | none => none) else none
  | some _ => none
  | none => if s == .sh then (match es with
    | [a] => if bltB C x tLen then prE R C .len true [a] else if bltB C x tInt then prE R C .int1 false [a] else if bltB C x tOrd then prE R C .ord false [a] else none
    | [a, t] => if bltB C x tIsinstance then (match clsOf C t with
      | some n => prE R C (.isi [n]) true [a]
      | none => none) else none
    | _ => none) else none
/-- the list's slot -/
def lstSlot (o : Expr) : Option Nat := match slotOf C o with
  | some i => (match C.shs[i]? with
    | some (.lst .sh) => some i
    | _ => none)
  | none => none
def muOf (name : Str) : List Expr → Option Mu
  | [] => if sEq name tPop then some .pop else if sEq name tReverse then some .rev else if sEq name tClear then some .clear else none
  | [_] => if sEq name tAppend then some .append else if sEq name tPop then some .popAt else none
  | _ => none
def stMeth (o : Expr) (name : Str) (apos pos : Pos) (es : List Expr) : Option CE := if s == .sh && plainObj o && (apos.endLine == pos.line) then (match lstSlot C o with
  | some i => (match muOf name es, cAc R C es with
    | some m, some as => if as.wf then some (.mut m i as) else none
    | _, _ => none)
  | none => (match es, R C .sh o with
    | [b], some co => if noStar o then (match cA R C [b] with
      | some rs => if sEq name tJoin then mkPrim C .join true (.cons co rs) else if sEq name tIndex then mkPrim C .sindex false (.cons co rs) else none
      | none => none) else none
    | _, _ => none)) else none
/-- what is walked -/
def cIt (tg it : Expr) : Option (Wk × CL × Bool) := match it with
  | .Call (.Name x _) [e] [] _ => if bltB C x tRange then (cA R C [e]).map fun as => (.range1, as, false)
    else if bltB C x tEnum then (match tg with
      | .Tuple _ _ _ => (cA R C [e]).map fun as => (.enum, as, true)
      | _ => none) else (cA R C [it]).map fun as => (.self, as, true)
  | .Set _ _ _ => none
  | _ => (cA R C [it]).map fun as => (.self, as, true)
/-- a target's name -/
def tgSlot (e : Expr) : Option Nat := match e with
  | .Name x _ => (match lk C.sc.names x with
    | some .local => ixOf C.N x
    | some .cell => (match C.fsc with
      | none => ixOf C.N x
      | some sc => (match lk sc.names x with
        | some .cell => ixOf C.N x
        | _ => none))
    | _ => none)
  | _ => none
def tgSlots : List Expr → Option (List Nat)
  | [] => some []
  | e :: es => (match tgSlot C e, tgSlots es with
    | some i, some r => some (i :: r)
    | _, _ => none)
def cTg (e : Expr) : Option Tg := match e with
  | .Tuple es _ _ => (match tgSlots C es with
    | some ts => if tgOk C.shs (.tup ts) then some (.tup ts) else none
    | none => none)
  | e => (match tgSlot C e with
    | some i => if tgOk C.shs (.slot i) then some (.slot i) else none
    | none => none)
def ownOf (N : List Str) (scope : Scope) : List (Str × Nat) := scope.names.filterMap fun y => match y.2 with
  | .local => (ixOf N y.1).map (y.1, ·)
  | .cell => (ixOf N y.1).map (y.1, ·)
  | _ => none
structure LcD where
  own : List (Str × Nat)
  tg : Tg
  wk : Wk
  it : CL
  fz : Bool
  conds : CL
  elt : CE
def LcD.code (l : LcD) : CE := .lc (l.own.map (·.2)) l.tg l.wk l.it l.conds l.elt
def cConds : List Expr → Option CL
  | [] => some .nil
  | [e] => (T C e).map fun c => .cons c .nil
  | _ => none
def stLc (elt tg it : Expr) (ifs : List Expr) (scope : Scope) : Option LcD := if blkC C.N C.sc scope (ownOf C.N scope) then (match cIt R C tg it, cTg (C.blk scope) tg, cConds T (C.blk scope) ifs, R (C.blk scope) .sh elt with
  | some (wk, as, fz), some t, some cs, some ce =>
    if tgSh C.shs t == .sh && ownSh C.shs ((ownOf C.N scope).map (·.2)) && as.wf && okSlots fz C.shs as && lcOk ((ownOf C.N scope).map (·.2)) t as cs ce then some ⟨ownOf C.N scope, t, wk, as, fz, cs, ce⟩ else none
  | _, _, _, _ => none) else none
variable {R T C s} {Γ : List Fn} {X : Cx} {c : CE} {pos : Pos}
theorem clsOf_ok (O : CtOk C Γ X) {e : Expr} {n : String} (h : clsOf C e = some n) : PE X e (tC (.ty n)) ∧ noStar e = true := by
  unfold clsOf at h
  split at h
  · have go : ∀ {x y : Str} {p : Pos} {n : String}, bltB C x y = true → bootBuiltins y = some (.type n) → PE X (.Name x p) (tC (.ty n)) := fun {x y p n} h hv => by
      obtain ⟨e, g, pl, m⟩ := blt_ok O h
      exact pe_bltn g m (by rw [e]; exact hv) rfl (plain_name pl) (plain_debug pl)
    refine ⟨?_, rfl⟩
    split at h
    · rename_i hb; cases h; exact go hb (by decide +kernel)
    · split at h
      · rename_i hb; cases h; exact go hb (by decide +kernel)
      · split at h
        · rename_i hb; cases h; exact go hb (by decide +kernel)
        · split at h
          · rename_i hb; cases h; exact go hb (by decide +kernel)
          · split at h
            · rename_i hb; cases h; exact go hb (by decide +kernel)
            · cases h
  · cases h
theorem stCall_ok (hR : SndE R) (O : CtOk C Γ X) {x : Str} {p : Pos} {es : List Expr} (h : stCall R C s x es = some c) : PE X (.Call (.Name x p) es [] pos) (rdE X.K Γ C.shs c s) := by
  unfold stCall at h
  split at h
  · rename_i gi g hg
    split at h
    · rename_i hz
      obtain ⟨hz1, hz2⟩ := Bool.and_eq_true_iff.mp hz
      obtain ⟨gl, pl⟩ := gl_ok O hz1
      split at h
      · rename_i as ha
        split at h
        · rename_i hy
          cases h
          obtain ⟨hy1, dst⟩ := Bool.and_eq_true_iff.mp hy
          obtain ⟨wf, f⟩ := Bool.and_eq_true_iff.mp hy1
          obtain ⟨kk, fn, F, hr, ex, hΓ⟩ := O.gs _ _ hg
          have pa := cAm_ok hR O ha
          refine sh_ok ?_ hz2
          cases es with
          | nil =>
            have : as = .nil := by cases pa; rfl
            subst this
            exact e_call0 F hr ex gl hΓ f (plain_debug pl)
          | cons e es => exact e_call F hr ex gl hΓ pa wf f dst (plain_debug pl)
        · cases h
      · cases h
    · cases h
  · cases h
  · split at h
    · rename_i hz
      have : s = .sh := by simpa using hz
      subst this
      split at h
      · split at h
        · rename_i hb
          obtain ⟨e, g, pl, m⟩ := blt_ok O hb
          obtain ⟨as, rfl, ha, wf, ok⟩ := prE_ok hR O h
          exact e_callB call_len pr_len g m (by rw [e]; exact boot_len) ha wf ok (plain_name pl) (plain_debug pl)
        · split at h
          · rename_i hb
            obtain ⟨e, g, pl, m⟩ := blt_ok O hb
            obtain ⟨as, rfl, ha, wf, ok⟩ := prE_ok hR O h
            exact e_callTy call_int1 pr_int1 g m (by rw [e]; decide +kernel) ha wf ok (plain_name pl) (plain_debug pl)
          · split at h
            · rename_i hb
              obtain ⟨e, g, pl, m⟩ := blt_ok O hb
              obtain ⟨as, rfl, ha, wf, ok⟩ := prE_ok hR O h
              exact e_callB call_ord pr_ord g m (by rw [e]; decide +kernel) ha wf ok (plain_name pl) (plain_debug pl)
            · cases h
      · split at h
        · rename_i hb
          obtain ⟨e, g, pl, m⟩ := blt_ok O hb
          split at h
          · rename_i n hn
            obtain ⟨as, rfl, ha, wf, ok⟩ := prE_ok hR O h
            obtain ⟨q1, q2⟩ := clsOf_ok O hn
            have e : x = ("isinstance" : Str) := e
            subst e
            exact e_isi ha q1 q2 wf ok g m
          · cases h
        · cases h
      · cases h
    · cases h
theorem lstSlot_ok {o : Expr} {i : Nat} (h : lstSlot C o = some i) : slotOf C o = some i ∧ C.shs[i]? = some (.lst .sh) := by
  unfold lstSlot at h
  split at h
  · split at h
    · cases h
      exact ⟨by assumption, by assumption⟩
    · cases h
  · cases h
theorem allF_of {es : List Expr} {as : CL} (h : PAg X Γ C.shs es as) : (backTo pos (starEach es X.env)).all (fun x => !x.1) = true := by
  have := backTo_any pos _ h.noStar
  rw [List.all_eq_not_any_not]
  simp only [Bool.not_not]
  rw [this]; rfl
theorem stMeth_ok (hR : SndE R) (O : CtOk C Γ X) {o : Expr} {name : Str} {apos : Pos} {es : List Expr} (h : stMeth R C s o name apos pos es = some c) : PE X (.Call (.Attribute o name apos) es [] pos) (rdE X.K Γ C.shs c s) := by
  unfold stMeth at h
  split at h
  · rename_i hz
    obtain ⟨hz1, hl⟩ := Bool.and_eq_true_iff.mp hz
    obtain ⟨hz2, hpo⟩ := Bool.and_eq_true_iff.mp hz1
    have : s = .sh := by simpa using hz2
    subst this
    split at h
    · rename_i i hi
      obtain ⟨h1, hs⟩ := lstSlot_ok hi
      obtain ⟨ho, _⟩ := slot_ok O h1
      split at h
      · rename_i m as hm ha
        split at h
        · rename_i wf
          cases h
          obtain ⟨pa, ac⟩ := cAc_ok hR O ha
          unfold muOf at hm
          split at hm
          · have : as = .nil := by cases pa; rfl
            subst this
            split at hm
            · rename_i e
              cases hm
              rw [sEq_ok e]
              exact e_mut0 ho (by exact F.slot_list_pop) rfl mt_pop mu_pop hs hpo hl
            · split at hm
              · rename_i e
                cases hm
                rw [sEq_ok e]
                exact e_mut0 ho (by exact F.slot_list_reverse) rfl mt_reverse mu_rev hs hpo hl
              · split at hm
                · rename_i e
                  cases hm
                  rw [sEq_ok e]
                  exact e_mut0 ho (by exact F.slot_list_clear) rfl mt_clear mu_clear hs hpo hl
                · cases hm
          · split at hm
            · rename_i e
              cases hm
              rw [sEq_ok e]
              exact e_mut1 ho (by exact slot_list_append) rfl mt_append mu_append hs pa ac wf hpo hl (allF_of pa)
            · split at hm
              · rename_i e
                cases hm
                rw [sEq_ok e]
                exact e_mut1 ho (by exact F.slot_list_pop) rfl mt_popAt mu_popAt hs pa ac wf hpo hl (allF_of pa)
              · cases hm
          · cases hm
        · cases h
      · cases h
    · split at h
      · rename_i b co hco
        split at h
        · rename_i hn
          split at h
          · rename_i rs hrs
            have pa : PAg X Γ C.shs [o, b] (.cons co rs) := .cons hn (hR _ _ _ _ hco _ _ O) (cA_ok hR O hrs)
            split at h
            · rename_i e
              obtain ⟨rfl, wf, ok⟩ := mkPrim_ok h
              rw [sEq_ok e]
              refine e_m1 (by exact F.slot_str_join) rfl ?_ pr_join (fun ds d r => ?_) pa wf ok hpo hl
              · intro pins s σ H x xs v us Q I rx rv q
                obtain ⟨y, rfl, a, p, ys, h1, h2, h3, h4, h5⟩ := q
                exact mt_join pins s σ H x _ v us Q I rx rv ⟨a, p, ys, h1, by rw [h2], h3, h4, h5⟩
              · replace r : pJoin ds = some d := r
                unfold pJoin at r
                split at r
                · exact ⟨_, _, rfl⟩
                · cases r
            · split at h
              · rename_i e
                obtain ⟨rfl, wf, ok⟩ := mkPrim_ok h
                rw [sEq_ok e]
                refine e_m1 (by exact F.slot_str_index) rfl ?_ pr_sindex (fun ds d r => ?_) pa wf ok hpo hl
                · intro pins s σ H x xs v us Q I rx rv q
                  obtain ⟨y, rfl, a, b, i, rest, h1, h2, h3, h4⟩ := q
                  exact mt_sindex pins s σ H x _ v us Q I rx rv ⟨a, b, i, rest, h1, by rw [h2], h3, h4⟩
                · replace r : pSindex ds = some d := r
                  unfold pSindex at r
                  split at r
                  · exact ⟨_, _, rfl⟩
                  · cases r
              · cases h
          · cases h
        · cases h
      · cases h
  · cases h
end
end Ev

/-! EvR: from the text to codes: walks, targets, comprehensions; all expressions. -/
namespace Ev
open PySem PySem.Spec PyProof.Rows L2
section
variable {R : RE} {T : RT} {C : Ct} {s : Sh} {Γ : List Fn} {X : Cx} {c : CE} {pos : Pos}
theorem it_self (hR : SndE R) (O : CtOk C Γ X) {tg it : Expr} {wk : Wk} {as : CL} {fz : Bool} (h : ((cA R C [it]).map fun as => ((Wk.self, as, true) : Wk × CL × Bool)) = some (wk, as, fz)) : ∃ wi, PI X tg it wi ∧ WkRd X.K Γ C.shs fz wi wk as := by
  obtain ⟨as', h1, h2⟩ := Option.map_eq_some_iff.mp h
  cases h2
  exact wk_self (cA_ok hR O h1)
theorem cIt_ok (hR : SndE R) (O : CtOk C Γ X) {tg it : Expr} {wk : Wk} {as : CL} {fz : Bool} (h : cIt R C tg it = some (wk, as, fz)) : (∃ wi, PI X tg it wi ∧ WkRd X.K Γ C.shs fz wi wk as) ∧ ∀ x, foldedSetIterable it X.env x = pure x := by
  unfold cIt at h
  split at h
  · refine ⟨?_, fun x => rfl⟩
    split at h
    · rename_i hb
      obtain ⟨e, g, pl, m⟩ := blt_ok O hb
      obtain ⟨as', h1, h2⟩ := Option.map_eq_some_iff.mp h
      cases h2
      subst e
      exact wk_range1 g m (cA_ok hR O h1)
    · split at h
      · rename_i hb
        obtain ⟨e, g, pl, m⟩ := blt_ok O hb
        split at h
        · obtain ⟨as', h1, h2⟩ := Option.map_eq_some_iff.mp h
          cases h2
          subst e
          exact wk_enum g m (cA_ok hR O h1)
        · cases h
      · exact it_self hR O h
  · cases h
  · rename_i n1 n2
    refine ⟨it_self hR O h, fun x => ?_⟩
    cases it <;> first | rfl | exact absurd rfl (n2 _ _ _)
theorem tgSlot_ok (O : CtOk C Γ X) {e : Expr} {i : Nat} (h : tgSlot C e = some i) : PG X e (gName i) ∧ noStar e = true := by
  unfold tgSlot at h
  split at h
  · rename_i x p
    refine ⟨?_, rfl⟩
    have nd : X.N.Nodup := by rw [O.N]; exact O.nd
    have hl : ∀ {k}, lk C.sc.names x = some k → X.env.scope.names.lookup x = some k := fun e => by rw [O.sc, lk_eq]; exact e
    split at h
    · rename_i e
      exact pg_name nd (by rw [O.N]; exact ixOf_ok h) (.inl (hl e)) (.inr (hl e))
    · rename_i e
      split at h
      · rename_i ef
        exact pg_name nd (by rw [O.N]; exact ixOf_ok h) (.inr (hl e)) (.inl (O.fn x fun s z => by rw [ef] at z; cases z))
      · rename_i sc ef
        split at h
        · rename_i e2
          exact pg_name nd (by rw [O.N]; exact ixOf_ok h) (.inr (hl e)) (.inl (O.fn x fun s z => by rw [ef] at z; cases z; rw [lk_eq]; exact e2))
        · cases h
    · cases h
  · cases h
theorem assignEach_cons {e : Expr} {es : List Expr} {env : Env} (h : noStar e = true) : assignEach (e :: es) env = (false, assign e env) :: assignEach es env := by
  cases e <;> first | rfl | cases h
theorem tgSlots_ok (O : CtOk C Γ X) : ∀ {es : List Expr} {ts : List Nat}, tgSlots C es = some ts → PGs X es (gsOf ts) ∧ (assignEach es X.env).length = ts.length ∧ (assignEach es X.env).findIdx? (·.1) = none
  | [], ts, h => by unfold tgSlots at h; cases h; exact ⟨pgs_nil, rfl, rfl⟩
  | e :: es, ts, h => by
    unfold tgSlots at h
    split at h
    · rename_i i r h1 h2
      cases h
      obtain ⟨a, n⟩ := tgSlot_ok O h1
      obtain ⟨b, c, d⟩ := tgSlots_ok O h2
      have e1 := assignEach_cons (es := es) (env := X.env) n
      refine ⟨pgs_cons a b (by rw [e1]; rfl), by rw [e1]; simp [c], ?_⟩
      rw [e1, List.findIdx?_cons]
      simp [d]
    · cases h
theorem cTg_ok (O : CtOk C Γ X) {e : Expr} {t : Tg} (h : cTg C e = some t) : PG X e (gRd X.K t) ∧ tgOk C.shs t = true ∧ noStar e = true := by
  unfold cTg at h
  split at h
  · split at h
    · rename_i ts hts
      split at h
      · rename_i ok
        cases h
        obtain ⟨a, b, c⟩ := tgSlots_ok O hts
        exact ⟨pg_tup O.calm a b c, ok, rfl⟩
      · cases h
    · cases h
  · split at h
    · rename_i i hi
      split at h
      · rename_i ok
        cases h
        obtain ⟨a, b⟩ := tgSlot_ok O hi
        exact ⟨a, ok, b⟩
      · cases h
    · cases h
theorem cConds_ok (hT : SndT T) (O : CtOk C Γ X) {es : List Expr} {cs : CL} (h : cConds T C es = some cs) : PTs X es (rdTs X.K Γ C.shs cs) := by
  unfold cConds at h
  split at h
  · cases h; exact ts_nil
  · obtain ⟨c, h1, rfl⟩ := Option.map_eq_some_iff.mp h
    exact ts_one (hT _ _ _ h1 _ _ O)
  · cases h
/-- all that a comprehension's rules ask for -/
theorem stLc_ok (hR : SndE R) (hT : SndT T) (O : CtOk C Γ X) {elt tg it : Expr} {ifs : List Expr} {scope : Scope} {l : LcD} (h : stLc R T C elt tg it ifs scope = some l) :
    (∃ wi, PI X tg it wi ∧ WkRd X.K Γ C.shs l.fz wi l.wk l.it) ∧ BlkOk X.N X.env.scope scope l.own ∧
    (∀ (s : Shared) (H : Hp) (c : Addr) (cl : List (Str × Addr)) (fp : List Addr), PG (X.blk s H scope (compEnvC scope cl c X.env) fp) tg (gRd X.K l.tg)) ∧ (∀ (s : Shared) (H : Hp) (c : Addr) (cl : List (Str × Addr)) (fp : List Addr), PTs (X.blk s H scope (compEnvC scope cl c X.env) fp) ifs (rdTs X.K Γ C.shs l.conds)) ∧
    (∀ (s : Shared) (H : Hp) (c : Addr) (cl : List (Str × Addr)) (fp : List Addr), PE (X.blk s H scope (compEnvC scope cl c X.env) fp) elt (rdE X.K Γ C.shs l.elt .sh)) ∧ (∀ x, foldedSetIterable it X.env x = pure x) ∧
    tgSh C.shs l.tg = .sh ∧ tgOk C.shs l.tg = true ∧ ownSh C.shs (l.own.map (·.2)) = true ∧ l.it.wf = true ∧ okSlots l.fz C.shs l.it = true ∧ lcOk (l.own.map (·.2)) l.tg l.it l.conds l.elt = true := by
  unfold stLc at h
  split at h
  · rename_i hb
    have bk := blkOk_by hb
    split at h
    · rename_i wk as fz t cs ce h1 h2 h3 h4
      split at h
      · rename_i hz
        cases h
        simp only [Bool.and_eq_true, beq_iff_eq] at hz
        obtain ⟨⟨⟨⟨z1, z2⟩, z3⟩, z4⟩, z5⟩ := hz
        obtain ⟨i1, i2⟩ := cIt_ok hR O h1
        have O' := fun (s : Shared) (H : Hp) (c : Addr) (cl : List (Str × Addr)) (fp : List Addr) => O.blk bk.kind s H c cl fp
        refine ⟨i1, by rw [O.N, O.sc]; exact bk, fun s H c cl fp => (cTg_ok (O' s H c cl fp) h2).1, fun s H c cl fp => cConds_ok hT (O' s H c cl fp) h3, fun s H c cl fp => hR _ _ _ _ h4 _ _ (O' s H c cl fp), i2, z1, ?_, z2, z3, z4, z5⟩
        exact (cTg_ok (O' X.s_0 (fun _ => none) 0 [] []) h2).2.1
      · cases h
    · cases h
  · cases h
end
section
variable (R : RE) (T : RT) (C : Ct) (s : Sh)
def stepE : Expr → Option CE
  | .Name x p => stName C s (.Name x p)
  | .Constant k _ _ => if s == .sh then stConst k else none
  | .BinOp a op b _ => (match opPr op s with
    | some p => prE R C p false [a, b]
    | none => none)
  | .Compare a [op] [b] _ => if s == .sh then stCmp R C op a b else none
  | .BoolOp op es _ => if s == .sh then stBool R C op es else none
  | .UnaryOp .Not a _ => if s == .sh then (R C .sh a).map fun c => .prim .not (.cons c .nil) else none
  | .UnaryOp .USub a _ => if s == .sh then prE R C .neg false [a] else none
  | .IfExp t a b _ => (match T C t, R C s a, R C s b with
    | some ct, some ca, some cb => some (.ife ct ca cb)
    | _, _, _ => none)
  | .List es _ => if shOk (.lst .sh) s then (match cAc R C es with
    | some as => if as.wf then some (.lst as) else none
    | none => none) else none
  | .Tuple es _ _ => if shOk .tp s then (match cAc R C es with
    | some as => if as.wf then some (.tup as) else none
    | none => none) else none
  | .Subscript a b _ => if s == .sh then stSub R C a b else none
  | .Call (.Name x _) es [] _ => stCall R C s x es
  | .Call (.Attribute o name apos) es [] pos => stMeth R C s o name apos pos es
  | .ListComp elt [⟨tg, it, ifs, 0⟩] scope _ => if shOk (.lst .sh) s then (stLc R T C elt tg it ifs scope).map LcD.code else none
  | _ => none
def valT : Expr → Bool
  | .Name _ _ => true
  | .Call _ _ _ _ => true
  | .Subscript _ _ _ => true
  | .Constant _ _ _ => true
  | _ => false
def stBoolT (op : BoolOp) : List Expr → Option CE
  | [] => none
  | [a] => T C a
  | a :: b :: r => (match T C a, stBoolT op (b :: r) with
    | some ca, some cb => some (match op with
      | .And => .and ca cb
      | .Or => .or ca cb)
    | _, _ => none)
def stepT (e : Expr) : Option CE := match e with
  | .Compare a [op] [b] _ => stCmp R C op a b
  | .UnaryOp .Not a _ => (T C a).map fun c => .prim .not (.cons c .nil)
  | .BoolOp op es _ => stBoolT T C op es
  | e => if valT e then R C .sh e else none
variable {R T C s} {Γ : List Fn} {X : Cx} {c : CE} {pos : Pos}
theorem sh_of {a b : Sh} (h : (a == b) = true) : a = b := by simpa using h
theorem stepE_ok (hR : SndE R) (hT : SndT T) (O : CtOk C Γ X) {e : Expr} (h : stepE R T C s e = some c) : PE X e (rdE X.K Γ C.shs c s) := by
  unfold stepE at h
  split at h
  · exact stName_ok O h
  · split at h
    · rename_i hz; cases sh_of hz; exact stConst_ok h
    · cases h
  · split at h
    · rename_i p hp
      obtain ⟨r, ho, hr⟩ := opPr_ok (X := X) hp
      obtain ⟨as, rfl, ha, wf, ok⟩ := prE_ok hR O h
      exact e_bin ho hr ha wf ok
    · cases h
  · split at h
    · rename_i hz; cases sh_of hz; exact (stCmp_ok hR O h).1
    · cases h
  · split at h
    · rename_i hz; cases sh_of hz; exact stBool_ok hR O h
    · cases h
  · split at h
    · rename_i hz; cases sh_of hz
      obtain ⟨c1, h1, rfl⟩ := Option.map_eq_some_iff.mp h
      exact e_not (hR _ _ _ _ h1 _ _ O)
    · cases h
  · split at h
    · rename_i hz; cases sh_of hz
      obtain ⟨as, rfl, ha, wf, ok⟩ := prE_ok hR O h
      exact e_neg ha wf ok
    · cases h
  · split at h
    · rename_i ct ca cb h1 h2 h3
      cases h
      exact e_ife (hT _ _ _ h1 _ _ O) (hR _ _ _ _ h2 _ _ O) (hR _ _ _ _ h3 _ _ O)
    · cases h
  · split at h
    · rename_i hz
      split at h
      · rename_i as ha
        split at h
        · rename_i wf
          cases h
          obtain ⟨pa, ac⟩ := cAc_ok hR O ha
          exact sh_ok (e_lst pa ac wf) hz
        · cases h
      · cases h
    · cases h
  · split at h
    · rename_i hz
      split at h
      · rename_i as ha
        split at h
        · rename_i wf
          cases h
          obtain ⟨pa, ac⟩ := cAc_ok hR O ha
          exact sh_ok (e_tup pa ac wf) hz
        · cases h
      · cases h
    · cases h
  · split at h
    · rename_i hz; cases sh_of hz; exact stSub_ok hR O h
    · cases h
  · exact stCall_ok hR O h
  · exact stMeth_ok hR O h
  · split at h
    · rename_i hz
      obtain ⟨l, hl, rfl⟩ := Option.map_eq_some_iff.mp h
      obtain ⟨⟨wi, i1, i2⟩, bk, g, t, el, fs, z1, z2, z3, z4, z5, z6⟩ := stLc_ok hR hT O hl
      exact sh_ok (e_lc O.calm (by rw [O.N]; exact O.nd) i1 bk g t el fs i2 z1 z2 z3 z4 z5 z6) hz
    · cases h
  · cases h
theorem stBoolT_ok (hT : SndT T) (O : CtOk C Γ X) {op : BoolOp} : ∀ {es : List Expr} {c : CE}, stBoolT T C op es = some c → PW X (.BoolOp op es pos) (rdT X.K Γ C.shs c)
  | [], c, h => by unfold stBoolT at h; cases h
  | [a], c, h => by
    unfold stBoolT at h
    cases op with
    | And => exact pw_and1 (hT _ _ _ h _ _ O)
    | Or => exact pw_or1 (hT _ _ _ h _ _ O)
  | a :: b :: r, c, h => by
    unfold stBoolT at h
    split at h
    · rename_i ca cb h1 h2
      cases h
      have q1 := hT _ _ _ h1 _ _ O
      have q2 := stBoolT_ok hT O h2
      cases op with
      | And => exact t_and q1 q2
      | Or => exact t_or q1 q2
    · cases h
theorem stepT_ok (hR : SndE R) (hT : SndT T) (O : CtOk C Γ X) {e : Expr} (h : stepT R T C e = some c) : PT X e (rdT X.K Γ C.shs c) := by
  unfold stepT at h
  split at h
  · exact (stCmp_ok hR O h).2
  · obtain ⟨c1, h1, rfl⟩ := Option.map_eq_some_iff.mp h
    exact t_not (hT _ _ _ h1 _ _ O)
  · exact (stBoolT_ok hT O h).pt
  · split at h
    · rename_i hv
      refine t_val (hR _ _ _ _ h _ _ O) ?_
      cases e <;> first | (intro whole; rfl) | cases hv
    · cases h
end
/-- both, by fuel -/
def comp : Nat → (RE × RT)
  | 0 => (fun _ _ _ => none, fun _ _ => none)
  | n + 1 => (fun C s e => stepE (comp n).1 (comp n).2 C s e, fun C e => stepT (comp n).1 (comp n).2 C e)
theorem comp_ok : ∀ n, SndE (comp n).1 ∧ SndT (comp n).2
  | 0 => ⟨fun _ _ _ _ h => (by cases h), fun _ _ _ h => (by cases h)⟩
  | n + 1 => by
    obtain ⟨a, b⟩ := comp_ok n
    exact ⟨fun C s e c h Γ X O => stepE_ok a b O h, fun C e c h Γ X O => stepT_ok a b O h⟩
end Ev

/-! EvS: from the text to codes: statements. -/
namespace Ev
open PySem PySem.Spec PyProof.Rows L2
abbrev RB := Ct → Sh → List Stmt → Option CB
def SndB (B : RB) : Prop := ∀ C ret ss c, B C ret ss = some c → ∀ Γ X, CtOk C Γ X → PSs X ss (rdS X.K C.shs ret c.mu c.sg (c.run Γ))
/-- not a comprehension that is laid -/
def noComp : Expr → Bool
  | .ListComp _ _ _ _ => false
  | .SetComp _ _ _ _ => false
  | .DictComp _ _ _ _ _ => false
  | _ => true
theorem swaps_no {e : Expr} (h : noComp e = true) (t : Option Expr) (l : Nat) (env : Env) : swapsWith e t l env = pure false := by
  cases e <;> first | rfl | cases h
def notDisp : Expr → Bool
  | .Tuple _ _ _ => false
  | _ => true
theorem swapped_no {tg e : Expr} (h : notDisp e = true) (env : Env) : swappedStores [tg] e env = pure none := by
  cases e <;> first | (cases tg <;> rfl) | cases h
theorem assign1 {tg : Expr} (h : noStar tg = true) (env : Env) : (assignEach [tg] env).map (·.2) = [assign tg env] := by
  rw [assignEach_cons h]; rfl
/-- whether a comprehension is stored at once -/
def swB (C : Ct) (x : Str) (px : Pos) (line : Nat) (scope : Scope) : Bool := (C.sc.kind == .function) && (C.sc.names.lookup x == some .local) && (px.line == line) && !(scope.names.any fun (n, k) => n == x && (k == .local || k == .cell))
section
variable (R : RE) (T : RT) (B : RB) (C : Ct) (ret : Sh)
def stepS : Stmt → Option CS
  | .Assign [.Name x px] (.ListComp elt [⟨tg, it, ifs, 0⟩] scope pos) spos => (match tgSlot C (.Name x px), stLc R T C elt tg it ifs scope with
    | some i, some l => if tgOk C.shs (.slot i) then (if swB C x px pos.line scope then (if lk C.sc.names x == some .local then (if tgSh C.shs (.slot i) == .lst .sh || tgSh C.shs (.slot i) == .sh then some (.asg (.slot i) l.code) else none) else none)
        else if shOk (.lst .sh) (tgSh C.shs (.slot i)) then some (.asg (.slot i) l.code) else none) else none
    | _, _ => none)
  | .Assign [.Name x px] e spos => if noComp e then (match tgSlot C (.Name x px) with
    | some i => if tgOk C.shs (.slot i) then (R C (tgSh C.shs (.slot i)) e).map fun c => .asg (.slot i) c else none
    | none => none) else none
  | .Assign [.Tuple ts k p] e spos => if noComp e && notDisp e then (match cTg C (.Tuple ts k p) with
    | some t => (R C (tgSh C.shs t) e).map fun c => .asg t c
    | none => none) else none
  | .Assign [.Subscript xe ke p2] e spos => if noComp e && notSlice ke && plainO xe then (match lstSlot C xe, R C .sh ke, R C .sh e with
    | some i, some kc, some c => some (.seti i kc c)
    | _, _, _ => none) else none
  | .Expr e pos => if noComp e then (R C .sh e).map fun c => .expr c else none
  | .Return (some e) _ => (R C ret e).map fun c => .ret c
  | .If t a b _ => (match T C t, B C ret a, B C ret b with
    | some ct, some ca, some cb => some (.ite ct ca cb)
    | _, _, _ => none)
  | .For tg it body [] _ => (match cIt R C tg it, cTg C tg, B C ret body with
    | some (wk, as, fz), some t, some cb => if tgSh C.shs t == .sh && as.wf && okSlots fz C.shs as && forOk t as cb then some (.for_ t wk as cb) else none
    | _, _, _ => none)
  | .Pass _ => some .pass
  | _ => none
where plainO : Expr → Bool
  | .Name _ _ => true
  | _ => false
variable {R T B C ret} {Γ : List Fn} {X : Cx} {pos : Pos}
theorem swB_ok (O : CtOk C Γ X) {x : Str} {px pos : Pos} {elt : Expr} {gens : List Comprehension} {scope : Scope} {line : Nat} : swapsWith (.ListComp elt gens scope pos) (some (.Name x px)) line X.env = pure (swB C x px pos.line scope) := by
  show (pure (X.env.blockKind == .function && X.env.kindOf x == some .local && px.line == pos.line && !(scope.names.any fun (n, k) => n == x && (k == .local || k == .cell))) : Sem Bool) = _
  unfold Env.blockKind Env.kindOf swB
  rw [O.sc, O.kind]
  rfl
theorem stepS_ok (hR : SndE R) (hT : SndT T) (hB : SndB B) (O : CtOk C Γ X) {st : Stmt} {c : CS} (h : stepS R T B C ret st = some c) : PS X st (rdS X.K C.shs ret c.mu c.sg (c.run Γ)) := by
  have nd : X.N.Nodup := by rw [O.N]; exact O.nd
  unfold stepS at h
  split at h
  · rename_i x px elt tg it ifs scope pos spos
    split at h
    · rename_i i l h1 h2
      obtain ⟨⟨wi, i1, i2⟩, bk, g, t, el, fs, z1, z2, z3, z4, z5, z6⟩ := stLc_ok hR hT O h2
      have hg := (tgSlot_ok O h1).1
      split at h
      · rename_i hok
        split at h
        · rename_i hsw
          split at h
          · rename_i hloc
            split at h
            · rename_i hsh
              cases h
              have hloc : lk C.sc.names x = some .local := by simpa using hloc
              have hi : X.N[i]? = some x := by
                unfold tgSlot at h1
                simp only [hloc] at h1
                rw [O.N]; exact ixOf_ok h1
              have hl : X.env.scope.names.lookup x = some .local := by rw [O.sc, lk_eq]; exact hloc
              have sw := swB_ok O (x := x) (px := px) (pos := pos) (elt := elt) (gens := [⟨tg, it, ifs, 0⟩]) (scope := scope) (line := spos.line)
              rw [hsw] at sw
              simp only [Bool.or_eq_true, beq_iff_eq] at hsh
              rcases hsh with hsh | hsh
              · exact s_asgLc O.calm nd hi hl sw i1 bk g t el fs i2 z1 z2 z3 z4 z5 z6 hsh hok
              · exact s_asgLcM O.calm nd hi hl sw i1 bk g t el fs i2 z1 z2 z3 z4 z5 z6 hsh hok
            · cases h
          · cases h
        · rename_i hsw
          split at h
          · rename_i hsh
            cases h
            have hsw : swB C x px pos.line scope = false := by simpa using hsw
            have sw := swB_ok O (x := x) (px := px) (pos := pos) (elt := elt) (gens := [⟨tg, it, ifs, 0⟩]) (scope := scope) (line := spos.line)
            rw [hsw] at sw
            refine s_asg' (tg := .slot i) (ps_asg (sh_ok (e_lc O.calm nd i1 bk g t el fs i2 z1 z2 z3 z4 z5 z6) hsh) hg sw rfl rfl) hok
          · cases h
      · cases h
    · cases h
  · rename_i x px e spos _
    split at h
    · rename_i hn
      split at h
      · rename_i i hi
        obtain ⟨hg, hs⟩ := tgSlot_ok O hi
        split at h
        · rename_i hok
          obtain ⟨c1, h1, rfl⟩ := Option.map_eq_some_iff.mp h
          refine s_asg' (tg := .slot i) (ps_asg (hR _ _ _ _ h1 _ _ O) hg (swaps_no hn (some (.Name x px)) spos.line X.env) ?_ rfl) hok
          cases e <;> rfl
        · cases h
      · cases h
    · cases h
  · rename_i ts k p e spos
    split at h
    · rename_i hn
      obtain ⟨hn1, hn2⟩ := Bool.and_eq_true_iff.mp hn
      split at h
      · rename_i t ht
        obtain ⟨hg, hok, hs⟩ := cTg_ok O ht
        obtain ⟨c1, h1, rfl⟩ := Option.map_eq_some_iff.mp h
        exact s_asg' (ps_asg (hR _ _ _ _ h1 _ _ O) hg (swaps_no hn1 (some (.Tuple ts k p)) spos.line X.env) (swapped_no hn2 _) rfl) hok
      · cases h
    · cases h
  · rename_i xe ke p2 e spos
    split at h
    · rename_i hn
      obtain ⟨hn12, hn3⟩ := Bool.and_eq_true_iff.mp hn
      obtain ⟨hn1, hn2⟩ := Bool.and_eq_true_iff.mp hn12
      split at h
      · rename_i i kc c1 h1 h2 h3
        cases h
        obtain ⟨q1, q2⟩ := lstSlot_ok h1
        obtain ⟨ho, _⟩ := slot_ok O q1
        refine s_seti ho (hR _ _ _ _ h2 _ _ O) (hR _ _ _ _ h3 _ _ O) q2 (swaps_no hn1 (some (.Subscript xe ke p2)) spos.line X.env) ?_ rfl ?_
        · cases e <;> rfl
        · intro v
          cases xe <;> first | (cases ke <;> first | rfl | cases hn2) | cases hn3
      · cases h
    · cases h
  · split at h
    · rename_i hn
      obtain ⟨c1, h1, rfl⟩ := Option.map_eq_some_iff.mp h
      exact s_expr (hR _ _ _ _ h1 _ _ O) (swaps_no hn _ _ _) rfl
    · cases h
  · obtain ⟨c1, h1, rfl⟩ := Option.map_eq_some_iff.mp h
    exact s_ret (hR _ _ _ _ h1 _ _ O)
  · split at h
    · rename_i ct ca cb h1 h2 h3
      cases h
      exact s_if (hT _ _ _ h1 _ _ O) (hB _ _ _ _ h2 _ _ O) (hB _ _ _ _ h3 _ _ O)
    · cases h
  · split at h
    · rename_i wk as fz t cb h1 h2 h3
      split at h
      · rename_i hz
        cases h
        simp only [Bool.and_eq_true, beq_iff_eq] at hz
        obtain ⟨⟨⟨z1, z2⟩, z3⟩, z4⟩ := hz
        obtain ⟨⟨wi, i1, i2⟩, fs⟩ := cIt_ok hR O h1
        obtain ⟨hg, hok, _⟩ := cTg_ok O h2
        exact s_for O.xe O.calm i1 i2 hg z1 hok (hB _ _ _ _ h3 _ _ O) z2 z3 z4 fs
      · cases h
    · cases h
  · cases h; exact s_pass
  · cases h
end
def blockB (S : Ct → Sh → Stmt → Option CS) (C : Ct) (ret : Sh) : List Stmt → Option CB
  | [] => some .nil
  | st :: r => (match S C ret st, blockB S C ret r with
    | some c, some cr => some (.cons c cr)
    | _, _ => none)
def compB : Nat → RB
  | 0 => fun _ _ _ => none
  | n + 1 => fun C ret ss => blockB (stepS (comp (n + 1)).1 (comp (n + 1)).2 (compB n)) C ret ss
theorem blockB_ok {S : Ct → Sh → Stmt → Option CS} {C : Ct} {ret : Sh} {Γ : List Fn} {X : Cx} (O : CtOk C Γ X) (h : ∀ st c, S C ret st = some c → PS X st (rdS X.K C.shs ret c.mu c.sg (c.run Γ))) :
    ∀ {ss : List Stmt} {c : CB}, blockB S C ret ss = some c → PSs X ss (rdS X.K C.shs ret c.mu c.sg (c.run Γ))
  | [], c, e => by unfold blockB at e; cases e; exact b_nil
  | st :: r, c, e => by
    unfold blockB at e
    split at e
    · rename_i c1 cr h1 h2
      cases e
      exact b_cons (h _ _ h1) (blockB_ok O h h2)
    · cases e
theorem compB_ok : ∀ n, SndB (compB n)
  | 0 => fun _ _ _ _ h => (by cases h)
  | n + 1 => fun C ret ss c h Γ X O => blockB_ok O (fun st c e => stepS_ok (comp_ok (n + 1)).1 (comp_ok (n + 1)).2 (compB_ok n) O e) h
end Ev

/-! EvT: defs by their codes, one behind another; the law's own def. -/
namespace Ev
open PySem PySem.Spec PyProof.Rows L2
section
variable (P : Program) (w : World) (K : PySem.W.Frag) (mg : Str → Option Value) (base : Heap)
/-- what is known of the names: good from kmax levels on -/
def Kn (kmax : Nat) (Γ : List Fn) (gs : List (Str × Gk)) : Prop := ∀ x k, lk gs x = some k → match k with
  | .fn gi g => ∃ kk fn, kk ≤ kmax ∧ x = g.name ∧ Γ[gi]? = some fn ∧ (∀ ds d outs, fn.run ds = some (d, outs) → outs.length = ds.length) ∧ g.ps.length = g.ms.length ∧
    ∃ f fd, mg g.name = some (.ref f) ∧ PySem.W.keepIn K (.ref f) = true ∧ Binds K fd g.ps [] ∧ FnOk P w K mg base CX0 kk f fd g.ps (spOf K g fn)
  | .con d => ∃ u v, mg x = some u ∧ RelV v u ∧ ∀ G, Rep K G d v
variable {P w K mg base} {Γ : List Fn} {gs : List (Str × Gk)} {kmax : Nat}
theorem Kn.gk (h : Kn P w K mg base kmax Γ gs) {X : Cx} (h1 : X.prog = P) (h2 : X.w = w) (h3 : X.K = K) (h4 : X.mg = mg) (h5 : X.base = base) (hr : Room kmax X.A) : ∀ x k, lk gs x = some k → GkOk X Γ x k := fun x k e => by
  have := h x k e
  cases k with
  | fn gi g =>
    obtain ⟨kk, fn, le, ex, hΓ, hl, ar, f, fd, z1, z2, z3, z4⟩ := this
    subst h1 h2 h3 h4 h5
    exact ⟨kk, fn, ⟨hl, ar, f, fd, z1, z2, z3, z4⟩, hr.mono le, ex, hΓ⟩
  | con d =>
    obtain ⟨u, v, e1, e2, e3⟩ := this
    subst h3 h4
    exact ⟨u, v, e1, e2, e3⟩
theorem mkFn_len {g : Sg} {n : Nat} {body : CB} : ∀ ds d outs, (mkFn Γ g n body).run ds = some (d, outs) → outs.length = ds.length := fun ds d outs h => by
  replace h : (if ds.length = g.ms.length then (match body.run Γ (ds.map some ++ List.replicate (n - ds.length) none) with
    | .ok r S => (match endVal g.ret r, outsOf g.ms ds S with
      | some d, some outs => some (d, outs)
      | _, _ => none)
    | _ => none) else none) = some (d, outs) := h
  split at h
  · split at h
    · split at h
      · rename_i h1 h2
        cases h
        exact outsOf_len h2
      · cases h
    · cases h
  · cases h
/-- the slots of a def's own that it was lent are not stored to -/
def lentOk (ms : List Sh) (sg : List Nat) : Bool := sg.all fun i => match ms[i]? with
  | none => true
  | some .sh => true
  | some _ => false
theorem lent_ok {ms : List Sh} {sg : List Nat} (h : lentOk ms sg = true) : ∀ i, i < ms.length → ms[i]? ≠ some .sh → i ∉ sg := fun i hi hn hs => by
  have := List.all_eq_true.mp h i hs
  cases q : ms[i]? with
  | none => rw [List.getElem?_eq_getElem hi] at q; cases q
  | some s =>
    rw [q] at this
    cases s with
    | sh => exact hn q
    | _ => cases this
/-- what is asked of a def's text and codes -/
structure DefOk (fuel : Nat) (gs : List (Str × Gk)) (N ps : List Str) (shs ms : List Sh) (ret : Sh) (body : List Stmt) (scope : Scope) (code : CB) : Prop where
  sc : FnScope N ps scope
  hsh : shs.take ms.length = ms
  hN : N.length = shs.length
  ar : ps.length = ms.length
  lent : lentOk ms code.sg = true
  comp : compB fuel ⟨N, shs, scope, none, gs⟩ ret body = some code
theorem ctx_ok {N : List Str} {shs : List Sh} {scope : Scope} {ps : List Str} (h : Kn P w K mg base kmax Γ gs) (S : FnScope N ps scope) (hbl : ∀ y ∈ blts, mg y = none) {qual : Str} {f : Addr} {cdv : Value} {A : Around} {outer : List Env} {s : Shared} {H : Hp} {E : XK} (hr : Room kmax (A.deeper (envOfC qual scope s.heap.objs.size f cdv))) :
    CtOk ⟨N, shs, scope, none, gs⟩ Γ (cxOf CX0 P w K mg base N qual scope f cdv A outer s H E).nox where
  N := rfl
  nd := S.nd
  calm := rfl
  xe := rfl
  sc := rfl
  kind := S.kind
  fn := fun _ _ => rfl
  gs := h.gk rfl rfl rfl rfl rfl hr
  bl := hbl
  un := by
    have := hr.un
    show (A.deeper (envOfC qual scope s.heap.objs.size f cdv)).units + 65 < cLine
    omega
theorem spOf_len {g : Sg} {fn : Fn} {vs : List V} {H : Hp} {Q : VK} {E : XK} (h : spOf K g fn vs H Q E) : vs.length = g.ps.length := by
  obtain ⟨w, ds, d, outs, _, _, hv, _⟩ := h
  exact hv
theorem def_ok {fuel : Nat} {N ps : List Str} {shs ms : List Sh} {ret : Sh} {body : List Stmt} {scope : Scope} {code : CB} {x qual : Str} {params : Arguments} {f : Addr} {fd : FuncData} (h : Kn P w K mg base kmax Γ gs) (hbl : ∀ y ∈ blts, mg y = none)
    (D : DefOk fuel gs N ps shs ms ret body scope code) (F : FunD K x qual params body scope [] [] f fd) : FnOk P w K mg base CX0 (kmax + 1) f fd ps (spOf K ⟨x, ps, ms, ret⟩ (mkFn Γ ⟨x, ps, ms, ret⟩ N.length code)) := by
  refine F.ok D.sc (fun vs H Q E q => spOf_len q) fun cdv A outer s H vs Q E hr q => ?_
  have pss := (compB_ok fuel) _ _ _ _ D.comp Γ _ (ctx_ok h D.sc hbl (outer := outer) (H := H) (E := E) hr)
  exact ⟨_, PSs.nox pss, body_ok D.hsh D.hN D.ar (lent_ok D.lent) q⟩
theorem lk_app {α : Type} : ∀ {l : List (Str × α)} {y x : Str} {k k' : α}, lk (l ++ [(y, k)]) x = some k' → lk l x = some k' ∨ (x = y ∧ k' = k)
  | [], y, x, k, k', h => by
    have h : (if sEq x y then some k else none) = some k' := h
    split at h
    · rename_i e
      cases h
      exact .inr ⟨sEq_ok e, rfl⟩
    · cases h
  | (z, kz) :: r, y, x, k, k', h => by
    have h : (if sEq x z then some kz else lk (r ++ [(y, k)]) x) = some k' := h
    show (if sEq x z then some kz else lk r x) = some k' ∨ _
    split at h
    · rename_i e
      rw [if_pos e]; exact .inl h
    · rename_i e
      rw [if_neg e]; exact lk_app h
/-- one def more -/
theorem Kn.add {fuel : Nat} {N ps : List Str} {shs ms : List Sh} {ret : Sh} {body : List Stmt} {scope : Scope} {code : CB} {x qual : Str} {params : Arguments} {f : Addr} {fd : FuncData} (h : Kn P w K mg base kmax Γ gs) (hbl : ∀ y ∈ blts, mg y = none)
    (D : DefOk fuel gs N ps shs ms ret body scope code) (F : FunD K x qual params body scope [] [] f fd) (hm : mg x = some (.ref f)) (hb : Binds K fd ps []) :
    Kn P w K mg base (kmax + 1) (Γ ++ [mkFn Γ ⟨x, ps, ms, ret⟩ N.length code]) (gs ++ [(x, .fn Γ.length ⟨x, ps, ms, ret⟩)]) := fun y k e => by
  rcases lk_app e with e | ⟨rfl, rfl⟩
  · have := h y k e
    cases k with
    | fn gi g =>
      obtain ⟨kk, fn, le, ex, hΓ, q⟩ := this
      refine ⟨kk, fn, by omega, ex, ?_, q⟩
      rw [List.getElem?_append_left (lt_of_getElem? hΓ)]; exact hΓ
    | con d => exact this
  · exact ⟨kmax + 1, _, Nat.le_refl _, rfl, by rw [List.getElem?_append_right (Nat.le_refl _)]; simp, mkFn_len, D.ar, f, fd, hm, F.kp, hb, def_ok h hbl D F⟩
theorem Kn.nil : Kn P w K mg base 0 [] [] := fun _ _ e => (by cases e)
/-- a constant more -/
theorem Kn.con {x : Str} {d : D} (h : Kn P w K mg base kmax Γ gs) (hd : ∃ u v, mg x = some u ∧ RelV v u ∧ ∀ G, Rep K G d v) : Kn P w K mg base kmax Γ (gs ++ [(x, .con d)]) := fun y k e => by
  rcases lk_app e with e | ⟨rfl, rfl⟩
  · exact h y k e
  · exact hd
end
/-- the script -/
def scriptD (ns : List Int) : D := .lst (ns.map D.int)
theorem repL_ints {K : Fg} {G : Hp} : ∀ ns : List Int, RepL K G (ns.map D.int) (ns.map V.int)
  | [] => .nil
  | n :: ns => .cons (.int n) (repL_ints ns)
theorem law_sp {K : Fg} {x y : Str} {fn : Fn} {H : Hp} {a : Addr} {ns : List Int} {E : XK} (hS : SqL K H a (ns.map V.int)) (hlen : ∀ ds d outs, fn.run ds = some (d, outs) → outs.length = ds.length) (h : ∃ outs, fn.run [scriptD ns] = some (.bl true, outs)) :
    spOf K ⟨x, [y], [.frz], .sh⟩ fn [.ref a] H (fun v _ => v = .bl true) E := by
  obtain ⟨outs, h⟩ := h
  refine ⟨{ S := [some (scriptD ns)], H := H, G := H, F := fun _ => [] }, [scriptD ns], .bl true, outs, rfl, rfl, rfl, ⟨rfl, rfl, fun i d s h1 h2 => ?_, fun _ _ => rfl, fun a o e => e, fun i a e => (by cases e), fun i j a e => (by cases e)⟩, h, hlen _ _ _ h, fun w' v R _ _ _ o => ?_⟩
  · have hi := lt_of_getElem? h1
    have : i = 0 := by simpa using hi
    subst this
    cases h1; cases h2
    exact ⟨.ref a, rfl, .frz hS (repL_ints ns)⟩
  · obtain ⟨_, r⟩ := o.nilR
    cases r; rfl
end Ev

/-! EvU: codes' runs, step by step. -/
namespace Ev
open PySem PySem.Spec PyProof.Rows L2
section
variable {Γ : List Fn} {S S1 S2 S6 : Env0D} {d d1 : D} {ds xs ys outs : List D} {c e : CE} {as r it conds : CL} {s : CS} {rb a b : CB} {tg : Tg} {wk : Wk} {own : List Nat}
theorem mkFn_run {g : Sg} {n : Nat} {code : CB} {r : Option D} (hl : ds.length = g.ms.length) (h : code.run Γ (ds.map some ++ List.replicate (n - ds.length) none) = .ok r S) (he : endVal g.ret r = some d) (ho : outsOf g.ms ds S = some outs) :
    (mkFn Γ g n code).run ds = some (d, outs) := by
  show (if ds.length = g.ms.length then (match code.run Γ (ds.map some ++ List.replicate (n - ds.length) none) with
    | .ok r S => (match endVal g.ret r, outsOf g.ms ds S with
      | some d, some outs => some (d, outs)
      | _, _ => none)
    | _ => none) else none) = _
  rw [if_pos hl, h]
  simp only [he, ho]
theorem k_run : (CE.k d).run Γ S = .ok d S := rfl
theorem var_run {i : Nat} (h : S[i]? = some (some d)) : (CE.var i).run Γ S = .ok d S := by
  show (match S[i]? with
  | some (some d) => Res.ok d S
  | _ => .bad) = _
  rw [h]
theorem mv_run {i : Nat} (h : S[i]? = some (some d)) : (CE.mv i).run Γ S = .ok d (S.set i none) := by
  show (match S[i]? with
  | some (some d) => Res.ok d (S.set i none)
  | _ => .bad) = _
  rw [h]
theorem prim_run {p : Pr} (h : as.run Γ S = .ok ds S1) (hp : runPr p ds = some d) : (CE.prim p as).run Γ S = .ok d S1 := by
  show (as.run Γ S).bind _ = _
  rw [h]
  show (match runPr p ds with
    | some d => Res.ok d S1
    | none => .bad) = _
  rw [hp]
theorem lst_run (h : as.run Γ S = .ok ds S1) (hz : Ev.sizeOk ds.length = true) : (CE.lst as).run Γ S = .ok (.lst ds) S1 := by
  show (as.run Γ S).bind _ = _
  rw [h]
  show (if Ev.sizeOk ds.length then Res.ok (D.lst ds) S1 else .bad) = _
  rw [if_pos hz]
theorem tup_run (h : as.run Γ S = .ok ds S1) (hz : Ev.sizeOk ds.length = true) : (CE.tup as).run Γ S = .ok (.tup ds) S1 := by
  show (as.run Γ S).bind _ = _
  rw [h]
  show (if Ev.sizeOk ds.length then Res.ok (D.tup ds) S1 else .bad) = _
  rw [if_pos hz]
theorem call_run {gi : Nat} {f : Fn} (h : as.run Γ S = .ok ds S1) (hf : Γ[gi]? = some f) (hr : f.run ds = some (d, outs)) : (CE.call gi as).run Γ S = .ok d (putBack as S1 outs) := by
  show (as.run Γ S).bind _ = _
  rw [h]
  show (match Γ[gi]? with
    | some f => (match f.run ds with
      | some (d, outs) => Res.ok d (putBack as S1 outs)
      | none => .bad)
    | none => .bad) = _
  rw [hf]
  simp only [hr]
theorem nil_run : CL.nil.run Γ S = .ok [] S := rfl
theorem cons_run (h : c.run Γ S = .ok d S1) (h2 : r.run Γ S1 = .ok ds S2) : (CL.cons c r).run Γ S = .ok (d :: ds) S2 := by
  show (c.run Γ S).bind _ = _
  rw [h]
  show (r.run Γ S1).bind _ = _
  rw [h2]; rfl
theorem slot_run {i : Nat} (h : S[i]? = some (some d)) (h2 : r.run Γ S = .ok ds S2) : (CL.slot i r).run Γ S = .ok (d :: ds) S2 := by
  show (match S[i]? with
  | some (some d) => (r.run Γ S).bind fun ds S2 => Res.ok (d :: ds) S2
  | _ => .bad) = _
  rw [h]
  show (r.run Γ S).bind _ = _
  rw [h2]; rfl
theorem ret_run (h : c.run Γ S = .ok d S1) : (CS.ret c).run Γ S = .ok (some d) S1 := by
  show (c.run Γ S).bind _ = _
  rw [h]; rfl
theorem asg_run (h : c.run Γ S = .ok d S1) (h2 : bindTg tg d S1 = some S2) : (CS.asg tg c).run Γ S = .ok none S2 := by
  show (c.run Γ S).bind _ = _
  rw [h]
  show (match bindTg tg d S1 with
    | some S2 => Res.ok none S2
    | none => .bad) = _
  rw [h2]
theorem iteT_run {x : Res (Option D)} (h : c.run Γ S = .ok (.bl true) S1) (h2 : a.run Γ S1 = x) : (CS.ite c a b).run Γ S = x := by
  show (c.run Γ S).bind _ = _
  rw [h]
  exact h2
theorem iteF_run {x : Res (Option D)} (h : c.run Γ S = .ok (.bl false) S1) (h2 : b.run Γ S1 = x) : (CS.ite c a b).run Γ S = x := by
  show (c.run Γ S).bind _ = _
  rw [h]
  exact h2
/-- an if without else that isn't entered -/
theorem if_no (h : c.run Γ S = .ok (.bl false) S1) : (CS.ite c a .nil).run Γ S = .ok none S1 := iteF_run h rfl
theorem cb_cons (h : s.run Γ S = .ok none S1) : (CB.cons s rb).run Γ S = rb.run Γ S1 := by
  show (s.run Γ S).bind _ = _
  rw [h]; rfl
theorem cb_ret (h : s.run Γ S = .ok (some d) S1) : (CB.cons s rb).run Γ S = .ok (some d) S1 := by
  show (s.run Γ S).bind _ = _
  rw [h]; rfl
theorem and_run {a b : CE} (h : a.run Γ S = .ok (.bl true) S1) : (CE.and a b).run Γ S = b.run Γ S1 := by
  show (a.run Γ S).bind _ = _
  rw [h]; rfl
theorem and_no {a b : CE} (h : a.run Γ S = .ok (.bl false) S1) : (CE.and a b).run Γ S = .ok (.bl false) S1 := by
  show (a.run Γ S).bind _ = _
  rw [h]; rfl
theorem or_run {a b : CE} (h : a.run Γ S = .ok (.bl false) S1) : (CE.or a b).run Γ S = b.run Γ S1 := by
  show (a.run Γ S).bind _ = _
  rw [h]; rfl
theorem or_yes {a b : CE} (h : a.run Γ S = .ok (.bl true) S1) : (CE.or a b).run Γ S = .ok (.bl true) S1 := by
  show (a.run Γ S).bind _ = _
  rw [h]; rfl
/-! loops -/
def nth : CB → Nat → CS
  | .nil, _ => .pass
  | .cons s _, 0 => s
  | .cons _ r, i + 1 => nth r i
def fbody : CS → CB
  | .for_ _ _ _ b => b
  | _ => .nil
def loopF (Γ : List Fn) (tg : Tg) (b : CB) : D → Env0D → Res (Option D) := fun x S2 => match bindTg tg x S2 with
  | some S3 => b.run Γ S3
  | none => .bad
theorem for_run (h : it.run Γ S = .ok ds S1) (hi : itemsOf wk ds = some xs) : (CS.for_ tg wk it b).run Γ S = walk (loopF Γ tg b) xs S1 := by
  show (it.run Γ S).bind _ = _
  rw [h]
  show (match itemsOf wk ds with
    | some xs => walk (loopF Γ tg b) xs S1
    | none => .bad) = _
  rw [hi]
theorem loopF_run {x : D} (h : bindTg tg x S = some S1) : loopF Γ tg b x S = b.run Γ S1 := by
  unfold loopF
  rw [h]
theorem walk_cons {f : D → Env0D → Res (Option D)} {x : D} {xs : List D} {S S1 : Env0D} (h : f x S = .ok none S1) : walk f (x :: xs) S = walk f xs S1 := by
  show (f x S).bind _ = _
  rw [h]; rfl
theorem walk_ret {f : D → Env0D → Res (Option D)} {x y : D} {xs : List D} {S S1 : Env0D} (h : f x S = .ok (some y) S1) : walk f (x :: xs) S = .ok (some y) S1 := by
  show (f x S).bind _ = _
  rw [h]; rfl
/-- all turns go through -/
theorem walk_all {f : D → Env0D → Res (Option D)} {Inv : Env0D → Prop} : ∀ (xs : List D), (∀ d ∈ xs, ∀ S, Inv S → ∃ S', f d S = .ok none S' ∧ Inv S') → ∀ S, Inv S → ∃ S', walk f xs S = .ok none S' ∧ Inv S'
  | [], _, S, i => ⟨S, rfl, i⟩
  | x :: xs, h, S, i => by
    obtain ⟨S1, e, i1⟩ := h x List.mem_cons_self S i
    obtain ⟨S2, e2, i2⟩ := walk_all xs (fun d hd => h d (List.mem_cons_of_mem _ hd)) S1 i1
    exact ⟨S2, (walk_cons e).trans e2, i2⟩
theorem gather_all {f : D → Env0D → Res (Option D)} {Inv : Env0D → Prop} {Pd : D → Prop} (h : ∀ d S, Inv S → ∃ y S', f d S = .ok (some y) S' ∧ Inv S' ∧ Pd y) : ∀ (xs acc : List D) (S : Env0D), Inv S → acc.length + xs.length ≤ 1000000 → (∀ y ∈ acc, Pd y) →
    ∃ ys S', gather f xs acc S = .ok ys S' ∧ Inv S' ∧ ys.length = acc.length + xs.length ∧ ∀ y ∈ ys, Pd y
  | [], acc, S, i, _, p => ⟨acc, S, rfl, i, rfl, p⟩
  | x :: xs, acc, S, i, hl, p => by
    obtain ⟨y, S1, e, i1, py⟩ := h x S i
    obtain ⟨ys, S', e2, i2, l2, p2⟩ := gather_all h xs (acc ++ [y]) S1 i1 (by simp at hl ⊢; omega) (fun z hz => by
      rcases List.mem_append.mp hz with hz | hz
      · exact p z hz
      · rw [List.mem_singleton] at hz; rw [hz]; exact py)
    refine ⟨ys, S', ?_, i2, by simp at l2 ⊢; omega, p2⟩
    show (f x S).bind _ = _
    rw [e]
    show (if Ev.sizeOk (acc.length + 1) then gather f xs (acc ++ [y]) S1 else .bad) = _
    rw [if_pos, e2]
    unfold Ev.sizeOk
    simp at hl ⊢; omega
/-- one turn of a comprehension -/
def lcF (Γ : List Fn) (own : List Nat) (tg : Tg) (conds : CL) (elt : CE) : D → Env0D → Res (Option D) := fun x S2 => (match bindTg tg x (wipeD S2 own) with
        | some S3 => (conds.all Γ S3).bind fun b S4 => if b then (elt.run Γ S4).bind fun y S5 => .ok (some y) S5 else .ok none S4
        | none => .bad)
theorem lc_run (h : it.run Γ S = .ok ds S1) (hi : itemsOf wk ds = some xs) (hg : gather (lcF Γ own tg conds e) xs [] S1 = .ok ys S6) :
    (CE.lc own tg wk it conds e).run Γ S = .ok (.lst ys) (restore S1 S6 own) := by
  show (it.run Γ S).bind _ = _
  rw [h]
  show (match itemsOf wk ds with
    | some xs => (gather (lcF Γ own tg conds e) xs [] S1).bind fun ys S6 => Res.ok (D.lst ys) (restore S1 S6 own)
    | none => .bad) = _
  rw [hi]
  show (gather (lcF Γ own tg conds e) xs [] S1).bind _ = _
  rw [hg]; rfl
/-- a turn without tests -/
theorem lcF_run {x : D} (h : bindTg tg x (wipeD S own) = some S1) (h2 : e.run Γ S1 = .ok d S2) : lcF Γ own tg .nil e x S = .ok (some d) S2 := by
  unfold lcF
  rw [h]
  show (e.run Γ S1).bind _ = _
  rw [h2]; rfl
end
/-! numbers -/
theorem small_mul {i j : Int} (h : i.natAbs < 2 ^ 64 ∨ j.natAbs < 2 ^ 64) : fMul i j = some (i * j) := by
  unfold fMul mulOk
  rw [if_pos]
  simp only [Bool.or_eq_true, decide_eq_true_eq]
  exact .inl h
theorem pos_mod {i j : Int} (h : 0 < j) : fMod i j = some (i % j) := by
  unfold fMod
  rw [if_pos (by simpa using h)]
theorem pos_div {i j : Int} (h : 0 < j) (h2 : j < 2 ^ 64) : fDiv i j = some (i / j) := by
  unfold fDiv
  rw [if_pos]
  rw [Bool.and_eq_true]
  refine ⟨decide_eq_true h, decide_eq_true ?_⟩
  have : j.natAbs < 2 ^ 64 := by omega
  exact Nat.lt_of_lt_of_le this (Nat.pow_le_pow_right (by decide) (by decide))
theorem iRange1_run {n : Int} (h : n ≤ 1000000) (h2 : 0 ≤ n) : itemsOf .range1 [.int n] = some ((List.range n.toNat).map fun i : Nat => .int i) := by
  show (if _ then _ else _) = _
  rw [if_pos]
  simp only [Bool.and_eq_true, decide_eq_true_eq]
  omega
theorem size_ok {n : Nat} (h : n ≤ 1000000) : Ev.sizeOk n = true := decide_eq_true h
/-! texts -/
def tx (cs : List Nat) : Str := ⟨cs.toArray⟩
theorem tx_len (cs : List Nat) : (tx cs).length = cs.length := by show (cs.toArray).size = _; simp
theorem tx_cps (cs : List Nat) : (tx cs).cps.toList = cs := by simp [tx]
def chs (cs : List Nat) : List D := cs.map fun c => D.str ⟨#[c]⟩
theorem iSelf_tx (cs : List Nat) : itemsOf .self [.str (tx cs)] = some (chs cs) := by simp [itemsOf, iSelf, tx, chs]
theorem pRev_tx {cs : List Nat} (h : cs.length ≤ 1000000) : pRev [.str (tx cs)] = some (.str (tx cs.reverse)) := by
  show (if Ev.sizeOk (tx cs).length then some (D.str ⟨(tx cs).cps.toList.reverse.toArray⟩) else none) = _
  rw [tx_len, if_pos (size_ok h), tx_cps]; rfl
theorem pAdd_tx {a b : List Nat} (h : a.length + b.length ≤ 1000000) : pAdd [.str (tx a), .str (tx b)] = some (.str (tx (a ++ b))) := by
  show (if Ev.sizeOk ((tx a).length + (tx b).length) then some (D.str (tx a ++ tx b)) else none) = _
  rw [tx_len, tx_len, if_pos (size_ok h)]
  show some (D.str ⟨a.toArray ++ b.toArray⟩) = _
  simp [tx]
theorem txts_chs : ∀ cs : List Nat, txts (chs cs) = some (cs.map fun c => (⟨#[c]⟩ : Str))
  | [] => rfl
  | c :: cs => by
    show (match txts (chs cs) with
      | some xs => some ((⟨#[c]⟩ : Str) :: xs)
      | none => none) = _
    rw [txts_chs cs]; rfl
theorem join_tx : ∀ cs : List Nat, Txt.join ⟨#[]⟩ (cs.map fun c => (⟨#[c]⟩ : Str)) = tx cs := fun cs => by
  have e : ∀ l : List Str, Txt.join ⟨#[]⟩ l = Str.join ⟨#[]⟩ l := fun l => by simpa using join_plain_closes ⟨#[]⟩ l
  rw [e]
  induction cs with
  | nil => rfl
  | cons c cs ih =>
    cases cs with
    | nil => rfl
    | cons d cs =>
      show (⟨#[c]⟩ : Str) ++ ⟨#[]⟩ ++ Str.join ⟨#[]⟩ ((d :: cs).map fun c => (⟨#[c]⟩ : Str)) = _
      rw [ih]
      show (⟨#[c] ++ #[] ++ (d :: cs).toArray⟩ : Str) = _
      simp [tx]
theorem pJoin_chs (cs : List Nat) (h : cs.length ≤ 1000000) : pJoin [.str ⟨#[]⟩, .lst (chs cs)] = some (.str (tx cs)) := by
  show (match txts (chs cs) with
    | some ys => if Ev.sizeOk ((ys.map (fun x : Str => x.length)).sum + ys.length * (⟨#[]⟩ : Str).length) then some (D.str (Txt.join ⟨#[]⟩ ys)) else none
    | none => none) = _
  rw [txts_chs]
  show (if _ then some (D.str (Txt.join ⟨#[]⟩ (cs.map fun c => (⟨#[c]⟩ : Str)))) else none) = _
  rw [join_tx, if_pos]
  have e : (⟨#[]⟩ : Str).length = 0 := rfl
  have e2 : ∀ l : List Nat, ((l.map fun c => (⟨#[c]⟩ : Str)).map (fun x : Str => x.length)).sum = l.length := fun l => by
    induction l with
    | nil => rfl
    | cons c l ih =>
      simp only [List.map_cons, List.sum_cons, ih, List.length_cons]
      show 1 + _ = _
      omega
  rw [e, e2]
  unfold Ev.sizeOk
  simpa using h
theorem ord1 (c : Nat) : pOrd [.str ⟨#[c]⟩] = some (.int (c : Int)) := rfl
/-! signs -/
def Let (cs : List Nat) : Prop := ∀ c ∈ cs, 97 ≤ c ∧ c < 123
def abc : Str := ⟨#[97, 98, 99, 100, 101, 102, 103, 104, 105, 106, 107, 108, 109, 110, 111, 112, 113, 114, 115, 116, 117, 118, 119, 120, 121, 122]⟩
def isCh (y : D) : Prop := ∃ c : Nat, (97 ≤ c ∧ c < 123) ∧ y = .str ⟨#[c]⟩
theorem chs_of : ∀ {ys : List D}, (∀ y ∈ ys, isCh y) → ∃ cs, Let cs ∧ ys = chs cs ∧ cs.length = ys.length
  | [], _ => ⟨[], fun c hc => (by cases hc), rfl, rfl⟩
  | y :: ys, h => by
    obtain ⟨c, hc, rfl⟩ := h y List.mem_cons_self
    obtain ⟨cs, h1, rfl, h3⟩ := chs_of (ys := ys) fun z hz => h z (List.mem_cons_of_mem _ hz)
    refine ⟨c :: cs, fun x hx => ?_, rfl, by simp [h3]⟩
    rcases List.mem_cons.mp hx with rfl | hx
    · exact hc
    · exact h1 x hx
theorem abc_ix : ∀ k, k < 26 → ∃ r, Builtin.Str.occurrences abc ⟨#[97 + k]⟩ 0 abc.length 1 = k :: r := by
  have : ∀ k ∈ List.range 26, (Builtin.Str.occurrences abc ⟨#[97 + k]⟩ 0 abc.length 1).head? = some k := by decide +kernel
  intro k hk
  have := this k (List.mem_range.mpr hk)
  cases q : Builtin.Str.occurrences abc ⟨#[97 + k]⟩ 0 abc.length 1 with
  | nil => rw [q] at this; cases this
  | cons i r => rw [q] at this; cases this; exact ⟨r, rfl⟩
theorem abc_at : ∀ i : Int, 0 ≤ i → i < 26 → ∃ c, 97 ≤ c ∧ c < 123 ∧ atI abc.cps.toList i = some c := by
  have : ∀ k ∈ List.range 26, atI abc.cps.toList ((k : Nat) : Int) = some (97 + k) := by decide +kernel
  intro i h0 h1
  obtain ⟨k, rfl⟩ := Int.eq_ofNat_of_zero_le h0
  exact ⟨97 + k, by omega, by omega, this k (List.mem_range.mpr (by omega))⟩
end Ev

namespace L17
open PySem PySem.Spec PyProof.Rows L2 Ev
abbrev R : PySem.W.OpenRow := PySem.W.OpenLaw.row PySem.Challenge.rw_sheafhall_k17_parts_of_keys
def top (i : Nat) : Stmt := PySem.Challenge.pw_sheafhall_k17_parts_of_keys.main.body.getD i (.Pass ⟨0, 0, 0, 0⟩)
def gs0 : List (Str × Gk) := []
def Ga0 : List Fn := []
def gs1 : List (Str × Gk) := gs0 ++ ([("LETTERS", .con (.str (PySem.Str.mk #[97, 98, 99, 100, 101, 102, 103, 104, 105, 106, 107, 108, 109, 110, 111, 112, 113, 114, 115, 116, 117, 118, 119, 120, 121, 122])))] : List (Str × Gk))
def gs2 : List (Str × Gk) := gs1 ++ ([("BASE", .con (.int 27))] : List (Str × Gk))
/-! part_of -/
def N0 : List Str := ["key", "parts", "number", "letter"]
def c0 : CB := (.cons (.asg (.slot 2) (.k (.int 0))) (.cons (.for_ (.slot 3) .self (.cons (.var 0) .nil) (.cons (.asg (.slot 2) (.prim .add (.cons (.prim .add (.cons (.prim .mul (.cons (.var 2) (.cons (.k (.int 27)) .nil))) (.cons (.prim .sindex (.cons (.k (.str (PySem.Str.mk #[97, 98, 99, 100, 101, 102, 103, 104, 105, 106, 107, 108, 109, 110, 111, 112, 113, 114, 115, 116, 117, 118, 119, 120, 121, 122]))) (.cons (.var 3) .nil))) .nil))) (.cons (.k (.int 1)) .nil)))) .nil)) (.cons (.ret (.prim .mod (.cons (.var 2) (.cons (.var 1) .nil)))) .nil)))
def sg0 : Sg := ⟨"part_of", ["key", "parts"], [.sh, .sh], .sh⟩
def f0 : Fn := mkFn Ga0 sg0 N0.length c0
theorem ok0 : DefOk 200 gs2 N0 ["key", "parts"] [.sh, .sh, .sh, .sh] [.sh, .sh] .sh (defBody (top 3)) (defScope (top 3)) c0 :=
  ⟨⟨rfl, rfl, rfl, by decide +kernel, rfl, by decide +kernel, by decide +kernel⟩, rfl, rfl, rfl, by decide +kernel, by kernel_rfl⟩
def d0 : He.DefD := ⟨("part_of", none), "part_of", "part_of", defArgs (top 3), defBody (top 3), defScope (top 3), [], []⟩
def gs3 : List (Str × Gk) := gs2 ++ ([("part_of", .fn 0 sg0)] : List (Str × Gk))
def Ga1 : List Fn := Ga0 ++ [f0]
/-! _law_cell_at -/
def N1 : List Str := ["_law_script", "_law_k"]
def c1 : CB := (.cons (.ite (.prim .lt (.cons (.var 1) (.cons (.prim .len (.slot 0 .nil)) .nil))) (.cons (.ret (.prim .ix (.slot 0 (.cons (.var 1) .nil)))) .nil) .nil) (.cons (.ret (.k (.int 0))) .nil))
def sg1 : Sg := ⟨"_law_cell_at", ["_law_script", "_law_k"], [.frz, .sh], .sh⟩
def f1 : Fn := mkFn Ga1 sg1 N1.length c1
theorem ok1 : DefOk 200 gs3 N1 ["_law_script", "_law_k"] [.frz, .sh] [.frz, .sh] .sh (defBody (top 5)) (defScope (top 5)) c1 :=
  ⟨⟨rfl, rfl, rfl, by decide +kernel, rfl, by decide +kernel, by decide +kernel⟩, rfl, rfl, rfl, by decide +kernel, by kernel_rfl⟩
def d1 : He.DefD := ⟨("_law_cell_at", none), "_law_cell_at", "_law_cell_at", defArgs (top 5), defBody (top 5), defScope (top 5), [], []⟩
def gs4 : List (Str × Gk) := gs3 ++ ([("_law_cell_at", .fn 1 sg1)] : List (Str × Gk))
def Ga2 : List Fn := Ga1 ++ [f1]
/-! _law_source_of -/
def N2 : List Str := ["_law_cell"]
def c2 : CB := (.cons (.asg (.slot 0) (.ife (.prim .ge (.cons (.var 0) (.cons (.k (.int 0)) .nil))) (.var 0) (.prim .sub (.cons (.prim .sub (.cons (.k (.int 0)) (.cons (.prim .mul (.cons (.k (.int 3)) (.cons (.var 0) .nil))) .nil))) (.cons (.k (.int 1)) .nil))))) (.cons (.ret (.lst (.cons (.prim .mul (.cons (.var 0) (.cons (.prim .int1 (.cons (.prim .ge (.cons (.var 0) (.cons (.prim .pow (.cons (.k (.int 10)) (.cons (.k (.int 18)) .nil))) .nil))) .nil)) .nil))) (.cons (.prim .mod (.cons (.var 0) (.cons (.k (.int 2147483647)) .nil))) (.cons (.k (.int 0)) .nil))))) .nil))
def sg2 : Sg := ⟨"_law_source_of", ["_law_cell"], [.sh], (.lst .sh)⟩
def f2 : Fn := mkFn Ga2 sg2 N2.length c2
theorem ok2 : DefOk 200 gs4 N2 ["_law_cell"] [.sh] [.sh] (.lst .sh) (defBody (top 6)) (defScope (top 6)) c2 :=
  ⟨⟨rfl, rfl, rfl, by decide +kernel, rfl, by decide +kernel, by decide +kernel⟩, rfl, rfl, rfl, by decide +kernel, by kernel_rfl⟩
def d2 : He.DefD := ⟨("_law_source_of", none), "_law_source_of", "_law_source_of", defArgs (top 6), defBody (top 6), defScope (top 6), [], []⟩
def gs5 : List (Str × Gk) := gs4 ++ ([("_law_source_of", .fn 2 sg2)] : List (Str × Gk))
def Ga3 : List Fn := Ga2 ++ [f2]
/-! _law_next -/
def N3 : List Str := ["_law_source", "_law_many", "_law_found", "_law_prime", "_law_number_here"]
def c3 : CB := (.cons (.ite (.prim .gt (.cons (.prim .ix (.slot 0 (.cons (.k (.int 0)) .nil))) (.cons (.k (.int 0)) .nil))) (.cons (.asg (.slot 2) (.prim .mod (.cons (.prim .ix (.slot 0 (.cons (.k (.int 0)) .nil))) (.cons (.var 1) .nil)))) (.cons (.seti 0 (.k (.int 0)) (.prim .fdiv (.cons (.prim .ix (.slot 0 (.cons (.k (.int 0)) .nil))) (.cons (.var 1) .nil)))) (.cons (.ret (.var 2)) .nil))) .nil) (.cons (.seti 0 (.k (.int 2)) (.prim .add (.cons (.prim .ix (.slot 0 (.cons (.k (.int 2)) .nil))) (.cons (.k (.int 1)) .nil)))) (.cons (.asg (.slot 3) (.k (.int 2147483647))) (.cons (.asg (.slot 4) (.prim .mod (.cons (.prim .add (.cons (.prim .add (.cons (.prim .ix (.slot 0 (.cons (.k (.int 1)) .nil))) (.cons (.prim .mul (.cons (.k (.int 104729)) (.cons (.prim .ix (.slot 0 (.cons (.k (.int 2)) .nil))) .nil))) .nil))) (.cons (.k (.int 7919)) .nil))) (.cons (.var 3) .nil)))) (.cons (.asg (.slot 4) (.prim .mod (.cons (.prim .mul (.cons (.var 4) (.cons (.k (.int 48271)) .nil))) (.cons (.var 3) .nil)))) (.cons (.asg (.slot 4) (.prim .mod (.cons (.prim .mul (.cons (.var 4) (.cons (.prim .add (.cons (.prim .fdiv (.cons (.var 4) (.cons (.k (.int 1009)) .nil))) (.cons (.k (.int 69621)) .nil))) .nil))) (.cons (.var 3) .nil)))) (.cons (.asg (.slot 4) (.prim .mod (.cons (.prim .mul (.cons (.var 4) (.cons (.prim .add (.cons (.prim .fdiv (.cons (.var 4) (.cons (.k (.int 2003)) .nil))) (.cons (.k (.int 40692)) .nil))) .nil))) (.cons (.k (.int 2147483399)) .nil)))) (.cons (.ret (.prim .mod (.cons (.prim .fdiv (.cons (.var 4) (.cons (.k (.int 7)) .nil))) (.cons (.var 1) .nil)))) .nil))))))))
def sg3 : Sg := ⟨"_law_next", ["_law_source", "_law_many"], [(.lst .sh), .sh], .sh⟩
def f3 : Fn := mkFn Ga3 sg3 N3.length c3
theorem ok3 : DefOk 200 gs5 N3 ["_law_source", "_law_many"] [(.lst .sh), .sh, .sh, .sh, .sh] [(.lst .sh), .sh] .sh (defBody (top 7)) (defScope (top 7)) c3 :=
  ⟨⟨rfl, rfl, rfl, by decide +kernel, rfl, by decide +kernel, by decide +kernel⟩, rfl, rfl, rfl, by decide +kernel, by kernel_rfl⟩
def d3 : He.DefD := ⟨("_law_next", none), "_law_next", "_law_next", defArgs (top 7), defBody (top 7), defScope (top 7), [], []⟩
def gs6 : List (Str × Gk) := gs5 ++ ([("_law_next", .fn 3 sg3)] : List (Str × Gk))
def Ga4 : List Fn := Ga3 ++ [f3]
/-! _law_one -/
def N4 : List Str := ["_law_source", "_law_some"]
def c4 : CB := (.cons (.ret (.prim .ix (.cons (.var 1) (.cons (.call 3 (.slot 0 (.cons (.prim .len (.cons (.var 1) .nil)) .nil))) .nil)))) .nil)
def sg4 : Sg := ⟨"_law_one", ["_law_source", "_law_some"], [(.lst .sh), .sh], .sh⟩
def f4 : Fn := mkFn Ga4 sg4 N4.length c4
theorem ok4 : DefOk 200 gs6 N4 ["_law_source", "_law_some"] [(.lst .sh), .sh] [(.lst .sh), .sh] .sh (defBody (top 8)) (defScope (top 8)) c4 :=
  ⟨⟨rfl, rfl, rfl, by decide +kernel, rfl, by decide +kernel, by decide +kernel⟩, rfl, rfl, rfl, by decide +kernel, by kernel_rfl⟩
def d4 : He.DefD := ⟨("_law_one", none), "_law_one", "_law_one", defArgs (top 8), defBody (top 8), defScope (top 8), [], []⟩
def gs7 : List (Str × Gk) := gs6 ++ ([("_law_one", .fn 4 sg4)] : List (Str × Gk))
def Ga5 : List Fn := Ga4 ++ [f4]
/-! _law_number -/
def N5 : List Str := ["_law_label_here", "_law_found", "_law_worth", "_law_letter"]
def c5 : CB := (.cons (.asg (.slot 1) (.k (.int 0))) (.cons (.asg (.slot 2) (.k (.int 1))) (.cons (.for_ (.slot 3) .self (.cons (.prim .rev (.cons (.var 0) .nil)) .nil) (.cons (.asg (.slot 1) (.prim .add (.cons (.var 1) (.cons (.prim .mul (.cons (.var 2) (.cons (.prim .sub (.cons (.prim .ord (.cons (.var 3) .nil)) (.cons (.k (.int 96)) .nil))) .nil))) .nil)))) (.cons (.asg (.slot 2) (.prim .mul (.cons (.k (.int 27)) (.cons (.var 2) .nil)))) .nil))) (.cons (.ret (.var 1)) .nil))))
def sg5 : Sg := ⟨"_law_number", ["_law_label_here"], [.sh], .sh⟩
def f5 : Fn := mkFn Ga5 sg5 N5.length c5
theorem ok5 : DefOk 200 gs7 N5 ["_law_label_here"] [.sh, .sh, .sh, .sh] [.sh] .sh (defBody (top 9)) (defScope (top 9)) c5 :=
  ⟨⟨rfl, rfl, rfl, by decide +kernel, rfl, by decide +kernel, by decide +kernel⟩, rfl, rfl, rfl, by decide +kernel, by kernel_rfl⟩
def d5 : He.DefD := ⟨("_law_number", none), "_law_number", "_law_number", defArgs (top 9), defBody (top 9), defScope (top 9), [], []⟩
def gs8 : List (Str × Gk) := gs7 ++ ([("_law_number", .fn 5 sg5)] : List (Str × Gk))
def Ga6 : List Fn := Ga5 ++ [f5]
/-! _law_label -/
def N6 : List Str := ["_law_source", "_law_k"]
def c6 : CB := (.cons (.ret (.prim .join (.cons (.k (.str (PySem.Str.mk #[]))) (.cons (.lc [1] (.slot 1) .range1 (.cons (.prim .add (.cons (.k (.int 1)) (.cons (.call 3 (.slot 0 (.cons (.k (.int 8)) .nil))) .nil))) .nil) .nil (.call 4 (.slot 0 (.cons (.k (.str (PySem.Str.mk #[97, 98, 99, 100, 101, 102, 103, 104, 105, 106, 107, 108, 109, 110, 111, 112, 113, 114, 115, 116, 117, 118, 119, 120, 121, 122]))) .nil)))) .nil)))) .nil)
def sg6 : Sg := ⟨"_law_label", ["_law_source"], [(.lst .sh)], .sh⟩
def f6 : Fn := mkFn Ga6 sg6 N6.length c6
theorem ok6 : DefOk 200 gs8 N6 ["_law_source"] [(.lst .sh), .sh] [(.lst .sh)] .sh (defBody (top 10)) (defScope (top 10)) c6 :=
  ⟨⟨rfl, rfl, rfl, by decide +kernel, rfl, by decide +kernel, by decide +kernel⟩, rfl, rfl, rfl, by decide +kernel, by kernel_rfl⟩
def d6 : He.DefD := ⟨("_law_label", none), "_law_label", "_law_label", defArgs (top 10), defBody (top 10), defScope (top 10), [], []⟩
def gs9 : List (Str × Gk) := gs8 ++ ([("_law_label", .fn 6 sg6)] : List (Str × Gk))
def Ga7 : List Fn := Ga6 ++ [f6]
/-! law -/
def N7 : List Str := ["_law_script", "_law_cell", "_law_source", "_law_label_here", "_law_many", "_law_last", "_law_some", "_law_told", "_law_gap"]
def c7 : CB := (.cons (.for_ (.slot 1) .self (.cons (.prim .add (.cons (.lst (.cons (.call 1 (.slot 0 (.cons (.k (.int 0)) .nil))) .nil)) (.cons (.prim (.slice true true) (.slot 0 (.cons (.k (.int 1)) (.cons (.k (.int 16)) .nil)))) .nil))) .nil) (.cons (.asg (.slot 2) (.call 2 (.cons (.var 1) .nil))) (.cons (.asg (.slot 3) (.call 6 (.slot 2 .nil))) (.cons (.asg (.slot 4) (.prim .add (.cons (.k (.int 1)) (.cons (.call 3 (.slot 2 (.cons (.k (.int 6)) .nil))) .nil)))) (.cons (.asg (.slot 5) (.call 4 (.slot 2 (.cons (.k (.str (PySem.Str.mk #[97, 98, 99, 100, 101, 102, 103, 104, 105, 106, 107, 108, 109, 110, 111, 112, 113, 114, 115, 116, 117, 118, 119, 120, 121, 122]))) .nil)))) (.cons (.for_ (.slot 6) .self (.cons (.lst (.cons (.var 3) (.cons (.prim .rev (.cons (.var 3) .nil)) (.cons (.prim .add (.cons (.prim (.slice false true) (.cons (.var 3) (.cons (.prim .neg (.cons (.k (.int 1)) .nil)) .nil))) (.cons (.var 5) .nil))) (.cons (.var 5) .nil))))) .nil) (.cons (.asg (.slot 7) (.call 0 (.cons (.var 6) (.cons (.var 4) .nil)))) (.cons (.ite (.or (.prim .not (.cons (.prim (.isi ["int"]) (.cons (.var 7) .nil)) .nil)) (.or (.prim (.isi ["bool"]) (.cons (.var 7) .nil)) (.prim .ne (.cons (.var 7) (.cons (.prim .mod (.cons (.call 5 (.cons (.var 6) .nil)) (.cons (.var 4) .nil))) .nil))))) (.cons (.ret (.k (.bl false))) .nil) .nil) (.cons (.ite (.prim .ne (.cons (.call 0 (.cons (.var 6) (.cons (.k (.int 1)) .nil))) (.cons (.k (.int 0)) .nil))) (.cons (.ret (.k (.bl false))) .nil) .nil) .nil)))) (.cons (.asg (.slot 8) (.prim .sub (.cons (.call 0 (.cons (.prim .add (.cons (.prim (.slice false true) (.cons (.var 3) (.cons (.prim .neg (.cons (.k (.int 1)) .nil)) .nil))) (.cons (.var 5) .nil))) (.cons (.var 4) .nil))) (.cons (.call 0 (.cons (.prim .add (.cons (.prim (.slice false true) (.cons (.var 3) (.cons (.prim .neg (.cons (.k (.int 1)) .nil)) .nil))) (.cons (.k (.str (PySem.Str.mk #[97]))) .nil))) (.cons (.var 4) .nil))) .nil)))) (.cons (.ite (.prim .ne (.cons (.prim .mod (.cons (.prim .add (.cons (.prim .sub (.cons (.var 8) (.cons (.prim .ord (.cons (.var 5) .nil)) .nil))) (.cons (.k (.int 97)) .nil))) (.cons (.var 4) .nil))) (.cons (.k (.int 0)) .nil))) (.cons (.ret (.k (.bl false))) .nil) .nil) .nil)))))))) (.cons (.ret (.prim .eq (.cons (.lc [3] (.slot 3) .self (.cons (.lst (.cons (.k (.str (PySem.Str.mk #[97]))) (.cons (.k (.str (PySem.Str.mk #[122]))) (.cons (.k (.str (PySem.Str.mk #[97, 97]))) (.cons (.k (.str (PySem.Str.mk #[97, 98]))) (.cons (.k (.str (PySem.Str.mk #[122, 122, 122, 122, 122, 122, 122, 122]))) .nil)))))) .nil) .nil (.call 0 (.cons (.var 3) (.cons (.k (.int 6)) .nil)))) (.cons (.lst (.cons (.k (.int 1)) (.cons (.k (.int 2)) (.cons (.k (.int 4)) (.cons (.k (.int 5)) (.cons (.k (.int 2)) .nil)))))) .nil)))) .nil))
def sg7 : Sg := ⟨"law", ["_law_script"], [.frz], .sh⟩
def f7 : Fn := mkFn Ga7 sg7 N7.length c7
theorem ok7 : DefOk 200 gs9 N7 ["_law_script"] [.frz, .sh, (.lst .sh), .sh, .sh, .sh, .sh, .sh, .sh] [.frz] .sh (defBody (top 11)) (defScope (top 11)) c7 :=
  ⟨⟨rfl, rfl, rfl, by decide +kernel, rfl, by decide +kernel, by decide +kernel⟩, rfl, rfl, rfl, by decide +kernel, by kernel_rfl⟩
def d7 : He.DefD := ⟨("law", none), "law", "law", defArgs (top 11), defBody (top 11), defScope (top 11), [], []⟩
def gs10 : List (Str × Gk) := gs9 ++ ([("law", .fn 7 sg7)] : List (Str × Gk))
def Ga8 : List Fn := Ga7 ++ [f7]
def fn : List He.DefD := [d0, d1, d2, d3, d4, d5, d6, d7]
def fa : List He.Fa := [.free "len", .free "int", .free "ord", .free "isinstance", .free "range", .free "enumerate", .free "bool", .free "str", .free "tuple", .free "list", .free "dict", .str "LETTERS" (PySem.Str.mk #[97, 98, 99, 100, 101, 102, 103, 104, 105, 106, 107, 108, 109, 110, 111, 112, 113, 114, 115, 116, 117, 118, 119, 120, 121, 122]), .int "BASE" 27, .glo "part_of", .glo "_law_cell_at", .glo "_law_source_of", .glo "_law_next", .glo "_law_one", .glo "_law_number", .glo "_law_label", .glo "law"]
abbrev hk : PySem.W.Hook := He.hookD 4 fa fn
def ob (s : PySem.W.SharedT) : He.AlD := He.obsDG 4 fa fn (HandSHeadRun.getT s)
theorem ob_eq (s : PySem.W.SharedT) : ob s = hk.obs s.abs := He.obsDG_eq (HandSHeadRun.getT_eq s)
def loose : List Str := [PySem.Str.ofString "__name__", PySem.Str.ofString "LETTERS", PySem.Str.ofString "BASE", PySem.Str.ofString "part_of", PySem.Str.ofString "_law_cell_at", PySem.Str.ofString "_law_source_of", PySem.Str.ofString "_law_next", PySem.Str.ofString "_law_one", PySem.Str.ofString "_law_number", PySem.Str.ofString "_law_label"]
theorem run (w : World) : HandSHeadRun.RunEq R (PySem.W.view R.prog [11]) hk ob 400 loose w := by
  intro os
  kernel_rfl
theorem facts {P : Program} {w : World} {K : PySem.W.Frag} {h : Heap} {mg : Str → Option Value} {f : Addr} (X : K.In h) (G : h.Ns mainGlobals mg) (hfa : mg ("law" : Str) = some (.ref f)) (c : He.SaysD fa fn K) :
    ∃ fd : FuncData, (∀ (s : Shared) (v : Value), BindsTo s fd ⟨[v], []⟩ [("_law_script", v)]) ∧ ∀ base : Heap, K.In base → base.Ns mainGlobals mg → FnOk P w K mg base CX0 8 f fd ["_law_script"] (spOf K sg7 f7) := by
  have hbl : ∀ y ∈ blts, mg y = none := List.forall_mem_cons.2 ⟨He.free_ok X G (c.fact 0 (f := .free "len") rfl), List.forall_mem_cons.2 ⟨He.free_ok X G (c.fact 1 (f := .free "int") rfl), List.forall_mem_cons.2 ⟨He.free_ok X G (c.fact 2 (f := .free "ord") rfl), List.forall_mem_cons.2 ⟨He.free_ok X G (c.fact 3 (f := .free "isinstance") rfl), List.forall_mem_cons.2 ⟨He.free_ok X G (c.fact 4 (f := .free "range") rfl), List.forall_mem_cons.2 ⟨He.free_ok X G (c.fact 5 (f := .free "enumerate") rfl), List.forall_mem_cons.2 ⟨He.free_ok X G (c.fact 6 (f := .free "bool") rfl), List.forall_mem_cons.2 ⟨He.free_ok X G (c.fact 7 (f := .free "str") rfl), List.forall_mem_cons.2 ⟨He.free_ok X G (c.fact 8 (f := .free "tuple") rfl), List.forall_mem_cons.2 ⟨He.free_ok X G (c.fact 9 (f := .free "list") rfl), List.forall_mem_cons.2 ⟨He.free_ok X G (c.fact 10 (f := .free "dict") rfl), fun _ z => (by cases z)⟩⟩⟩⟩⟩⟩⟩⟩⟩⟩⟩
  obtain ⟨fd0, F0⟩ := c.def_ 0 (d := d0) rfl
  obtain ⟨fd1, F1⟩ := c.def_ 1 (d := d1) rfl
  obtain ⟨fd2, F2⟩ := c.def_ 2 (d := d2) rfl
  obtain ⟨fd3, F3⟩ := c.def_ 3 (d := d3) rfl
  obtain ⟨fd4, F4⟩ := c.def_ 4 (d := d4) rfl
  obtain ⟨fd5, F5⟩ := c.def_ 5 (d := d5) rfl
  obtain ⟨fd6, F6⟩ := c.def_ 6 (d := d6) rfl
  obtain ⟨fd7, F7⟩ := c.def_ 7 (d := d7) rfl
  have e := hfa.symm.trans (He.glo_ok X G (c.fact 20 (f := .glo "law") rfl))
  cases e
  have b := FunD.bindsA (ps := ["_law_script"]) F7 fun _ _ _ _ _ _ us hl => match us, hl with | [_], _ => rfl
  refine ⟨fd7, fun s v => b s [v] rfl, fun base _ _ => ?_⟩
  have k0 : Kn P w K mg base 0 Ga0 gs0 := Kn.nil
  obtain ⟨t0, e0⟩ := He.str_ok X G (c.fact 11 (f := .str "LETTERS" (PySem.Str.mk #[97, 98, 99, 100, 101, 102, 103, 104, 105, 106, 107, 108, 109, 110, 111, 112, 113, 114, 115, 116, 117, 118, 119, 120, 121, 122])) rfl)
  have k1 : Kn P w K mg base 0 Ga0 gs1 := k0.con ⟨_, .str _, e0, ⟨_, rfl⟩, fun _ => .str _⟩
  obtain ⟨t1, e1⟩ := He.int_ok X G (c.fact 12 (f := .int "BASE" 27) rfl)
  have k2 : Kn P w K mg base 0 Ga0 gs2 := k1.con ⟨_, .int 27, e1, ⟨_, rfl⟩, fun _ => .int _⟩
  have k3 : Kn P w K mg base 1 Ga1 gs3 := k2.add hbl ok0 F0 (He.glo_ok X G (c.fact 13 (f := .glo "part_of") rfl)) (F0.bindsN fun _ _ _ _ _ _ us hl => match us, hl with | [_, _], _ => rfl)
  have k4 : Kn P w K mg base 2 Ga2 gs4 := k3.add hbl ok1 F1 (He.glo_ok X G (c.fact 14 (f := .glo "_law_cell_at") rfl)) (F1.bindsN fun _ _ _ _ _ _ us hl => match us, hl with | [_, _], _ => rfl)
  have k5 : Kn P w K mg base 3 Ga3 gs5 := k4.add hbl ok2 F2 (He.glo_ok X G (c.fact 15 (f := .glo "_law_source_of") rfl)) (F2.bindsN fun _ _ _ _ _ _ us hl => match us, hl with | [_], _ => rfl)
  have k6 : Kn P w K mg base 4 Ga4 gs6 := k5.add hbl ok3 F3 (He.glo_ok X G (c.fact 16 (f := .glo "_law_next") rfl)) (F3.bindsN fun _ _ _ _ _ _ us hl => match us, hl with | [_, _], _ => rfl)
  have k7 : Kn P w K mg base 5 Ga5 gs7 := k6.add hbl ok4 F4 (He.glo_ok X G (c.fact 17 (f := .glo "_law_one") rfl)) (F4.bindsN fun _ _ _ _ _ _ us hl => match us, hl with | [_, _], _ => rfl)
  have k8 : Kn P w K mg base 6 Ga6 gs8 := k7.add hbl ok5 F5 (He.glo_ok X G (c.fact 18 (f := .glo "_law_number") rfl)) (F5.bindsN fun _ _ _ _ _ _ us hl => match us, hl with | [_], _ => rfl)
  have k9 : Kn P w K mg base 7 Ga7 gs9 := k8.add hbl ok6 F6 (He.glo_ok X G (c.fact 19 (f := .glo "_law_label") rfl)) (F6.bindsN fun _ _ _ _ _ _ us hl => match us, hl with | [_], _ => rfl)
  exact def_ok k9 hbl ok7 F7
end L17

namespace L17
open PySem PySem.Spec PyProof.Rows L2 Ev
/-- the source told on -/
theorem next_ok (a b c m : Int) (hm : 0 < m) (hm2 : m < 2 ^ 64) : ∃ r a' b' c', f3.run [.lst [.int a, .int b, .int c], .int m] = some (.int r, [.lst [.int a', .int b', .int c'], .int m]) ∧ 0 ≤ r ∧ r < m := by
  by_cases ha : 0 < a
  · refine ⟨a % m, a / m, b, c, mkFn_run (r := some (.int (a % m))) (S := [some (.lst [.int (a / m), .int b, .int c]), some (.int m), some (.int (a % m)), none, none]) rfl ?_ rfl rfl, Int.emod_nonneg _ (by omega), Int.emod_lt_of_pos _ hm⟩
    simp [c3, CB.run, CS.run, CE.run, CL.run, Res.bind, runPr, pInt2, pCmp, pIx, atI, ixN, bindTg, N3, ha, pos_mod hm, pos_div hm hm2]
  · let n1 := (b + 104729 * (c + 1) + 7919) % 2147483647
    let n2 := n1 * 48271 % 2147483647
    let n3 := n2 * (n2 / 1009 + 69621) % 2147483647
    let n4 := n3 * (n3 / 2003 + 40692) % 2147483399
    have m0 : fMul 104729 (c + 1) = some (104729 * (c + 1)) := small_mul (.inl (by decide))
    have m1 : fMul n1 48271 = some (n1 * 48271) := small_mul (.inr (by decide))
    have b2 : 0 ≤ n2 ∧ n2 < 2147483647 := ⟨Int.emod_nonneg _ (by decide), Int.emod_lt_of_pos _ (by decide)⟩
    have b3 : 0 ≤ n3 ∧ n3 < 2147483647 := ⟨Int.emod_nonneg _ (by decide), Int.emod_lt_of_pos _ (by decide)⟩
    have m2 : fMul n2 (n2 / 1009 + 69621) = some (n2 * (n2 / 1009 + 69621)) := small_mul (.inl (by omega))
    have m3 : fMul n3 (n3 / 2003 + 40692) = some (n3 * (n3 / 2003 + 40692)) := small_mul (.inl (by omega))
    refine ⟨n4 / 7 % m, a, b, c + 1, mkFn_run (r := some (.int (n4 / 7 % m))) (S := [some (.lst [.int a, .int b, .int (c + 1)]), some (.int m), none, some (.int 2147483647), some (.int n4)]) rfl ?_ rfl rfl, Int.emod_nonneg _ (by omega), Int.emod_lt_of_pos _ hm⟩
    have d1 : fDiv n2 1009 = some (n2 / 1009) := pos_div (by decide) (by decide)
    have d2 : fDiv n3 2003 = some (n3 / 2003) := pos_div (by decide) (by decide)
    have d3 : fDiv n4 7 = some (n4 / 7) := pos_div (by decide) (by decide)
    have q1 : fMod (b + 104729 * (c + 1) + 7919) 2147483647 = some n1 := pos_mod (by decide)
    have q2 : fMod (n1 * 48271) 2147483647 = some n2 := pos_mod (by decide)
    have q3 : fMod (n2 * (n2 / 1009 + 69621)) 2147483647 = some n3 := pos_mod (by decide)
    have q4 : fMod (n3 * (n3 / 2003 + 40692)) 2147483399 = some n4 := pos_mod (by decide)
    have q5 : fMod (n4 / 7) m = some (n4 / 7 % m) := pos_mod hm
    clear_value n4 n3 n2 n1
    simp [c3, CB.run, CS.run, CE.run, CL.run, Res.bind, runPr, pInt2, pCmp, pIx, atI, ixN, bindTg, N3, ha, m0, m1, m2, m3, d1, d2, d3, q1, q2, q3, q4, q5, pAdd]
theorem one_ok (a b c : Int) : ∃ r a' b' c', f4.run [.lst [.int a, .int b, .int c], .str abc] = some (.str ⟨#[r]⟩, [.lst [.int a', .int b', .int c'], .str abc]) ∧ 97 ≤ r ∧ r < 123 := by
  obtain ⟨r, a', b', c', h, h0, h1⟩ := next_ok a b c 26 (by decide) (by decide)
  obtain ⟨k, k1, k2, hk⟩ := abc_at r h0 h1
  refine ⟨k, a', b', c', mkFn_run (r := some (.str ⟨#[k]⟩)) (S := [some (.lst [.int a', .int b', .int c']), some (.str abc)]) rfl ?_ rfl rfl, k1, k2⟩
  have hl : abc.length = 26 := rfl
  simp [c4, CB.run, CS.run, CE.run, CL.run, Res.bind, runPr, pIx, pLen, hk, h, hl, Ev.sizeOk, Ga4, Ga3, Ga2, Ga1, Ga0, putBack, CL.argOf, N4]
/-- a key's number -/
def num (n : Int) : List Nat → Int
  | [] => n
  | c :: cs => num (n * 27 + ((c : Int) - 97) + 1) cs
theorem part_loop (k p : D) : ∀ (cs : List Nat), Let cs → ∀ n l, ∃ l', walk (loopF Ga0 (.slot 3) (fbody (nth c0 1))) (chs cs) [some k, some p, some (.int n), l] = .ok none [some k, some p, some (.int (num n cs)), l']
  | [], _, n, l => ⟨l, rfl⟩
  | c :: cs, h, n, l => by
    obtain ⟨h1, h2⟩ := h c List.mem_cons_self
    obtain ⟨l', ih⟩ := part_loop k p cs (fun x hx => h x (List.mem_cons_of_mem _ hx)) (n * 27 + ((c : Int) - 97) + 1) (some (.str ⟨#[c]⟩))
    refine ⟨l', (walk_cons (xs := chs cs) ?_).trans ih⟩
    have hx : pSindex [.str abc, .str ⟨#[c]⟩] = some (.int ((c : Int) - 97)) := by
      obtain ⟨r, hr⟩ := abc_ix (c - 97) (by omega)
      have e : 97 + (c - 97) = c := by omega
      rw [e] at hr
      unfold pSindex
      simp only [hr]
      congr 2
      omega
    have hm : fMul n 27 = some (n * 27) := small_mul (.inr (by decide))
    simp only [abc] at hx
    simp [loopF, fbody, nth, c0, CB.run, CS.run, CE.run, CL.run, Res.bind, runPr, pInt2, pAdd, bindTg, hm, hx]
theorem part_ok (cs : List Nat) (m : Int) (h : Let cs) (hm : 0 < m) : f0.run [.str (tx cs), .int m] = some (.int (num 0 cs % m), [.str (tx cs), .int m]) := by
  obtain ⟨l', hl⟩ := part_loop (.str (tx cs)) (.int m) cs h 0 none
  refine mkFn_run (r := some (.int (num 0 cs % m))) (S := [some (.str (tx cs)), some (.int m), some (.int (num 0 cs)), l']) rfl ?_ rfl rfl
  show CB.run Ga0 (.cons (nth c0 0) (.cons (nth c0 1) (.cons (nth c0 2) .nil))) [some (.str (tx cs)), some (.int m), none, none] = _
  rw [cb_cons (S1 := [some (.str (tx cs)), some (.int m), some (.int 0), none]) (by simp [nth, c0, CS.run, CE.run, Res.bind, bindTg])]
  have e : CS.run Ga0 (nth c0 1) [some (.str (tx cs)), some (.int m), some (.int 0), none] = .ok none [some (.str (tx cs)), some (.int m), some (.int (num 0 cs)), l'] :=
    (for_run (ds := [.str (tx cs)]) (xs := chs cs) (by simp [CL.run, CE.run, Res.bind]) (by simp [itemsOf, iSelf, tx, chs])).trans hl
  rw [cb_cons e]
  refine cb_ret ?_
  simp [nth, c0, CS.run, CE.run, CL.run, Res.bind, runPr, pInt2, pos_mod hm]
/-- .. and as the law reckons it, from the last letter on -/
def lsum : Int → Int → List Nat → Int × Int
  | f, w, [] => (f, w)
  | f, w, c :: cs => lsum (f + w * ((c : Int) - 96)) (27 * w) cs
theorem lnum_loop (k : D) : ∀ (cs : List Nat), Let cs → ∀ (f w : Int) l, ∃ l', walk (loopF Ga5 (.slot 3) (fbody (nth c5 2))) (chs cs) [some k, some (.int f), some (.int w), l] = .ok none [some k, some (.int (lsum f w cs).1), some (.int (lsum f w cs).2), l']
  | [], _, f, w, l => ⟨l, rfl⟩
  | c :: cs, h, f, w, l => by
    obtain ⟨h1, h2⟩ := h c List.mem_cons_self
    obtain ⟨l', ih⟩ := lnum_loop k cs (fun x hx => h x (List.mem_cons_of_mem _ hx)) (f + w * ((c : Int) - 96)) (27 * w) (some (.str ⟨#[c]⟩))
    refine ⟨l', (walk_cons (xs := chs cs) ?_).trans ih⟩
    have hm : fMul w ((c : Int) - 96) = some (w * ((c : Int) - 96)) := small_mul (.inr (by omega))
    have hm2 : fMul 27 w = some (27 * w) := small_mul (.inl (by decide))
    simp [loopF, fbody, nth, c5, CB.run, CS.run, CE.run, CL.run, Res.bind, runPr, pInt2, pAdd, bindTg, hm, hm2, ord1]
theorem lnum_ok (cs : List Nat) (h : Let cs) (hl : cs.length ≤ 1000) : f5.run [.str (tx cs)] = some (.int (lsum 0 1 cs.reverse).1, [.str (tx cs)]) := by
  obtain ⟨l', hw⟩ := lnum_loop (.str (tx cs)) cs.reverse (fun x hx => h x (List.mem_reverse.mp hx)) 0 1 none
  refine mkFn_run (r := some (.int (lsum 0 1 cs.reverse).1)) (S := [some (.str (tx cs)), some (.int (lsum 0 1 cs.reverse).1), some (.int (lsum 0 1 cs.reverse).2), l']) rfl ?_ rfl rfl
  show CB.run Ga5 (.cons (nth c5 0) (.cons (nth c5 1) (.cons (nth c5 2) (.cons (nth c5 3) .nil)))) [some (.str (tx cs)), none, none, none] = _
  rw [cb_cons (S1 := [some (.str (tx cs)), some (.int 0), none, none]) (by simp [nth, c5, CS.run, CE.run, Res.bind, bindTg])]
  rw [cb_cons (S1 := [some (.str (tx cs)), some (.int 0), some (.int 1), none]) (by simp [nth, c5, CS.run, CE.run, Res.bind, bindTg])]
  have hz : Ev.sizeOk (tx cs).length = true := by
    unfold Ev.sizeOk
    have : (tx cs).length = cs.length := by show (cs.toArray).size = _; simp
    rw [this]; simp; omega
  have e : CS.run Ga5 (nth c5 2) [some (.str (tx cs)), some (.int 0), some (.int 1), none] = .ok none [some (.str (tx cs)), some (.int (lsum 0 1 cs.reverse).1), some (.int (lsum 0 1 cs.reverse).2), l'] :=
    (for_run (ds := [.str (tx cs.reverse)]) (xs := chs cs.reverse) (by simp [CL.run, CE.run, Res.bind, runPr, pRev, hz]; simp [tx]) (by simp [itemsOf, iSelf, tx, chs])).trans hw
  rw [cb_cons e]
  refine cb_ret ?_
  simp [nth, c5, CS.run, CE.run, CL.run, Res.bind]
theorem lsum_add : ∀ (cs : List Nat) (f w : Int) (c : Nat), lsum f w (cs ++ [c]) = ((lsum f w cs).1 + (lsum f w cs).2 * ((c : Int) - 96), 27 * (lsum f w cs).2)
  | [], f, w, c => rfl
  | x :: cs, f, w, c => lsum_add cs _ _ c
theorem num_lsum : ∀ (cs : List Nat) (n : Int), num n cs = n * (lsum 0 1 cs.reverse).2 + (lsum 0 1 cs.reverse).1
  | [], n => by simp [num, lsum]
  | c :: cs, n => by
    rw [List.reverse_cons, lsum_add]
    show num (n * 27 + ((c : Int) - 97) + 1) cs = _
    rw [num_lsum cs]
    generalize (lsum 0 1 cs.reverse).1 = A
    generalize (lsum 0 1 cs.reverse).2 = B
    grind
theorem num_app : ∀ (cs : List Nat) (n : Int) (c : Nat), num n (cs ++ [c]) = num n cs * 27 + ((c : Int) - 97) + 1
  | [], n, c => rfl
  | x :: cs, n, c => num_app cs _ c
theorem label_ok (a b c : Int) : ∃ cs a' b' c', f6.run [.lst [.int a, .int b, .int c]] = some (.str (tx cs), [.lst [.int a', .int b', .int c']]) ∧ Let cs ∧ 1 ≤ cs.length ∧ cs.length ≤ 8 := by
  obtain ⟨r, a1, b1, c1, h, h0, h1⟩ := next_ok a b c 8 (by decide) (by decide)
  let el : CE := .call 4 (.slot 0 (.cons (.k (.str abc)) .nil))
  let it : CL := .cons (.prim .add (.cons (.k (.int 1)) (.cons (.call 3 (.slot 0 (.cons (.k (.int 8)) .nil))) .nil))) .nil
  obtain ⟨ys, S', hg, ⟨a', b', c', l, rfl⟩, hlen, hp⟩ := gather_all (f := lcF Ga6 [1] (.slot 1) .nil el) (Inv := fun S => ∃ a b c l, S = [some (D.lst [.int a, .int b, .int c]), l]) (Pd := isCh) (fun d S i => by
      obtain ⟨a, b, c, l, rfl⟩ := i
      obtain ⟨r, a', b', c', h, h0, h1⟩ := one_ok a b c
      refine ⟨.str ⟨#[r]⟩, [some (.lst [.int a', .int b', .int c']), some d], ?_, ⟨a', b', c', some d, rfl⟩, r, ⟨h0, h1⟩, rfl⟩
      simp [lcF, el, bindTg, wipeD, CL.all, CE.run, CL.run, Res.bind, Ga6, Ga5, Ga4, Ga3, Ga2, Ga1, Ga0, h, putBack, CL.argOf])
    ((List.range (1 + r).toNat).map fun i : Nat => .int i) [] [some (.lst [.int a1, .int b1, .int c1]), none] ⟨a1, b1, c1, none, rfl⟩ (by simp; omega) (fun y hy => by cases hy)
  obtain ⟨cs, hc, rfl, hcl⟩ := chs_of hp
  have hle : cs.length = (1 + r).toNat := by rw [hcl, hlen]; simp
  refine ⟨cs, a', b', c', mkFn_run (r := some (.str (tx cs))) (S := [some (.lst [.int a', .int b', .int c']), none]) rfl ?_ rfl rfl, hc, by omega, by omega⟩
  have hi : it.run Ga6 [some (D.lst [.int a, .int b, .int c]), none] = Res.ok [D.int (1 + r)] [some (D.lst [.int a1, .int b1, .int c1]), none] := by
    simp [it, CE.run, CL.run, Res.bind, runPr, pAdd, Ga6, Ga5, Ga4, Ga3, Ga2, Ga1, Ga0, h, putBack, CL.argOf]
  have hlc := lc_run (own := [1]) hi (iRange1_run (n := 1 + r) (by omega) (by omega)) hg
  refine cb_ret ?_
  show CS.run Ga6 (.ret (.prim .join (.cons (.k (.str ⟨#[]⟩)) (.cons (.lc [1] (.slot 1) .range1 it .nil el) .nil)))) [some (.lst [.int a, .int b, .int c]), none] = _
  exact ret_run (prim_run (cons_run k_run (cons_run hlc nil_run)) (pJoin_chs cs (by omega)))
end L17

namespace L17
open PySem PySem.Spec PyProof.Rows L2 Ev
theorem mul_run {i j : Int} (h : i.natAbs < 2 ^ 64 ∨ j.natAbs < 2 ^ 64) : runPr .mul [.int i, .int j] = some (.int (i * j)) := by
  show (fMul i j).map D.int = _
  rw [small_mul h]; rfl
theorem mod_run {i j : Int} (h : 0 < j) : runPr .mod [.int i, .int j] = some (.int (i % j)) := by
  show (fMod i j).map D.int = _
  rw [pos_mod h]; rfl
theorem source_ok (x : Int) : ∃ a b c, f2.run [.int x] = some (.lst [.int a, .int b, .int c], [.int x]) := by
  have two : ∀ y : Int, ∃ a b c, CS.run Ga2 (nth c2 1) [some (.int y)] = .ok (some (.lst [.int a, .int b, .int c])) [some (.int y)] := fun y =>
    ⟨_, _, _, ret_run (lst_run (cons_run (prim_run (cons_run (var_run rfl) (cons_run (prim_run (cons_run (prim_run (cons_run (var_run rfl) (cons_run (prim_run (cons_run k_run (cons_run k_run nil_run)) (show runPr .pow [.int 10, .int 18] = some (.int (10 ^ 18)) from rfl)) nil_run)) rfl) nil_run) rfl) nil_run))
      (mul_run (.inr (by split <;> decide)))) (cons_run (prim_run (cons_run (var_run rfl) (cons_run k_run nil_run)) (mod_run (by decide))) (cons_run k_run nil_run))) rfl)⟩
  have one : ∃ y : Int, CS.run Ga2 (nth c2 0) [some (.int x)] = .ok none [some (.int y)] := by
    by_cases h : 0 ≤ x
    · refine ⟨x, ?_⟩
      simp [c2, nth, CS.run, CE.run, CL.run, Res.bind, runPr, pCmp, bindTg, h]
    · have hm : fMul 3 x = some (3 * x) := small_mul (.inl (by decide))
      refine ⟨0 - 3 * x - 1, ?_⟩
      simp [c2, nth, CS.run, CE.run, CL.run, Res.bind, runPr, pCmp, pInt2, bindTg, h, hm]
  obtain ⟨y, h1⟩ := one
  obtain ⟨a, b, c, h2⟩ := two y
  refine ⟨a, b, c, mkFn_run (r := some (.lst [.int a, .int b, .int c])) (S := [some (.int y)]) rfl ?_ rfl rfl⟩
  exact (cb_cons h1).trans (cb_ret h2)
theorem cell_ok (ns : List Int) : ∃ v : Int, f1.run [scriptD ns, .int 0] = some (.int v, [scriptD ns, .int 0]) := by
  cases ns with
  | nil =>
    refine ⟨0, mkFn_run (r := some (.int 0)) (S := [some (scriptD []), some (.int 0)]) rfl ?_ rfl rfl⟩
    simp [c1, CB.run, CS.run, CE.run, CL.run, Res.bind, runPr, pCmp, pLen, scriptD, N1]
  | cons n ns =>
    refine ⟨n, mkFn_run (r := some (.int n)) (S := [some (scriptD (n :: ns)), some (.int 0)]) rfl ?_ rfl rfl⟩
    have hl : (0 : Int) < ((ns.map D.int).length : Int) + 1 := by omega
    have ha : atI (D.int n :: ns.map D.int) 0 = some (.int n) := by
      unfold atI ixN
      simp
    simp [c1, CB.run, CS.run, CE.run, CL.run, Res.bind, runPr, pCmp, pLen, scriptD, pIx, N1, ha]
theorem cut_last {cs : List Nat} (h : 1 ≤ cs.length) (h2 : cs.length ≤ 1000000) : sliceOf (.str (tx cs)) none (some (-1)) = some (.str (tx cs.dropLast)) := by
  show (if Ev.sizeOk (tx cs).length then some (D.str (cutS (tx cs) none (some (-1)))) else none) = _
  rw [tx_len, if_pos (size_ok h2)]
  unfold cutS
  rw [tx_len, tx_cps]
  have e : HT.sIx cs.length cs.length (some (-1)) = cs.length - 1 := by
    show (if (-1 : Int) < 0 then ((-1 : Int) + (cs.length : Int)).toNat else min (-1 : Int).toNat cs.length) = _
    rw [if_pos (by decide)]
    omega
  have e0 : HT.sIx cs.length 0 none = 0 := rfl
  rw [e, e0, List.drop_zero, Nat.sub_zero, ← List.dropLast_eq_take]
  rfl
theorem eq_int (i j : Int) : eqD (.int i) (.int j) = some (decide (i = j)) := by
  have s : ∀ i : Int, SeqAt.shaped (.int i) = true := fun i => by
    simp [SeqAt.shaped, PyData.canLay0, PyData.depth]
  show (if SeqAt.shaped (.int i) && SeqAt.shaped (.int j) then some (PyData.eqv (.int i) (.int j)) else none) = _
  rw [s, s]
  simp [PyData.eqv]
  by_cases h : i = j <;> simp [h]
theorem ne_run (i j : Int) : runPr .ne [.int i, .int j] = some (.bl (!decide (i = j))) := by
  show (eqD (.int i) (.int j)).map (fun c => D.bl (!c)) = _
  rw [eq_int]; rfl
theorem isi_int (i : Int) : runPr (.isi ["int"]) [.int i] = some (.bl true) := by
  show (isiD (.int i) ["int"]).map D.bl = _
  have : isiD (.int i) ["int"] = some true := by
    show isiT "int" ["int"] = some true
    decide +kernel
  rw [this]; rfl
theorem isi_bool (i : Int) : runPr (.isi ["bool"]) [.int i] = some (.bl false) := by
  show (isiD (.int i) ["bool"]).map D.bl = _
  have : isiD (.int i) ["bool"] = some false := by
    show isiT "int" ["bool"] = some false
    decide +kernel
  rw [this]; rfl
theorem gather_cons {f : D → Env0D → Res (Option D)} {x y : D} {xs acc : List D} {S S1 : Env0D} (h : f x S = .ok (some y) S1) (hz : acc.length + 1 ≤ 1000000) : gather f (x :: xs) acc S = gather f xs (acc ++ [y]) S1 := by
  show (f x S).bind _ = _
  rw [h]
  show (if Ev.sizeOk (acc.length + 1) then gather f xs (acc ++ [y]) S1 else .bad) = _
  rw [if_pos (size_ok hz)]
def b7 : CB := fbody (nth c7 0)
def bi : CB := fbody (nth b7 4)
theorem inner (zs : List Nat) (m : Int) (h : Let zs) (hl : zs.length ≤ 1000) (hm : 0 < m) (e0 e1 e2 e3 e5 e6 e7 e8 : Option D) :
    loopF Ga7 (.slot 6) bi (.str (tx zs)) [e0, e1, e2, e3, some (.int m), e5, e6, e7, e8] = .ok none [e0, e1, e2, e3, some (.int m), e5, some (.str (tx zs)), some (.int (num 0 zs % m)), e8] := by
  refine (loopF_run (S1 := [e0, e1, e2, e3, some (.int m), e5, some (.str (tx zs)), e7, e8]) rfl).trans ?_
  refine (cb_cons (S1 := [e0, e1, e2, e3, some (.int m), e5, some (.str (tx zs)), some (.int (num 0 zs % m)), e8]) (asg_run (call_run (cons_run (var_run rfl) (cons_run (var_run rfl) nil_run)) rfl (part_ok zs m h hm)) rfl)).trans ?_
  have hn : num 0 zs = (lsum 0 1 zs.reverse).1 := by
    have := num_lsum zs 0
    rw [this]; simp
  refine (cb_cons (if_no ((or_run (prim_run (cons_run (prim_run (cons_run (var_run rfl) nil_run) (isi_int _)) nil_run) rfl)).trans ((or_run (prim_run (cons_run (var_run rfl) nil_run) (isi_bool _))).trans
    (prim_run (cons_run (var_run rfl) (cons_run (prim_run (cons_run (call_run (cons_run (var_run rfl) nil_run) rfl (lnum_ok zs h hl)) (cons_run (var_run rfl) nil_run)) (mod_run hm)) nil_run)) ?_))))).trans ?_
  · rw [ne_run, hn]; simp
  · refine (cb_cons (if_no (prim_run (cons_run (call_run (cons_run (var_run rfl) (cons_run k_run nil_run)) rfl (part_ok zs 1 h (by decide))) (cons_run k_run nil_run)) ?_))).trans rfl
    rw [ne_run]; simp
theorem let_app {a b : List Nat} (h : Let a) (k : Let b) : Let (a ++ b) := fun c hc => by
  rcases List.mem_append.mp hc with hc | hc
  · exact h c hc
  · exact k c hc
theorem let_rev {a : List Nat} (h : Let a) : Let a.reverse := fun c hc => h c (List.mem_reverse.mp hc)
theorem let_last {a : List Nat} (h : Let a) : Let a.dropLast := fun c hc => h c (List.dropLast_subset a hc)
theorem let_one {c : Nat} (h : 97 ≤ c) (k : c < 123) : Let [c] := fun x hx => by
  rw [List.mem_singleton] at hx
  subst hx
  exact ⟨h, k⟩
theorem gap (A B l m : Int) (h : A - B = l - 97) : (A % m - B % m - l + 97) % m = 0 := by
  have h1 := Int.emod_add_mul_ediv A m
  have h2 := Int.emod_add_mul_ediv B m
  have : A % m - B % m - l + 97 = m * (B / m - A / m) := by
    rw [Int.mul_sub]
    omega
  rw [this]
  exact Int.mul_emod_right _ _
theorem add_run (i j : Int) : runPr .add [.int i, .int j] = some (.int (i + j)) := rfl
theorem sub_run (i j : Int) : runPr .sub [.int i, .int j] = some (.int (i - j)) := rfl
/-- a turn of the law's loop -/
theorem turn (x : Int) (scr : D) (o : Option D) (o2 o3 o4 o5 o6 o7 o8 : Option D) : ∃ p1 p2 p3 p4 p5 p6 p7 p8, loopF Ga7 (.slot 1) b7 (.int x) [some scr, o, o2, o3, o4, o5, o6, o7, o8] = .ok none [some scr, p1, p2, p3, p4, p5, p6, p7, p8] := by
  obtain ⟨a, b, c, hs⟩ := source_ok x
  obtain ⟨cs, a1, b1, c1', hlab, hc, hc1, hc8⟩ := label_ok a b c
  obtain ⟨r, a2, b2, c2', hn, hr0, hr1⟩ := next_ok a1 b1 c1' 6 (by decide) (by decide)
  obtain ⟨l, a3, b3, c3', hone, hl0, hl1⟩ := one_ok a2 b2 c2'
  have hm : 0 < 1 + r := by omega
  have dl : Let (cs.dropLast ++ [l]) := let_app (let_last hc) (let_one hl0 hl1)
  have da : Let (cs.dropLast ++ [97]) := let_app (let_last hc) (let_one (by decide) (by decide))
  have hord : runPr .ord [.str ⟨#[l]⟩] = some (.int (l : Int)) := ord1 l
  have nl : cs.dropLast.length ≤ 8 := by rw [List.length_dropLast]; omega
  have hcut : runPr (.slice false true) [.str (tx cs), .int (-1)] = some (.str (tx cs.dropLast)) := cut_last hc1 (by omega)
  have hrev : runPr .rev [.str (tx cs)] = some (.str (tx cs.reverse)) := pRev_tx (by omega)
  have hal : runPr .add [.str (tx cs.dropLast), .str ⟨#[l]⟩] = some (.str (tx (cs.dropLast ++ [l]))) := pAdd_tx (a := cs.dropLast) (b := [l]) (by simp at nl ⊢; omega)
  have haa : runPr .add [.str (tx cs.dropLast), .str ⟨#[97]⟩] = some (.str (tx (cs.dropLast ++ [97]))) := pAdd_tx (a := cs.dropLast) (b := [97]) (by simp at nl ⊢; omega)
  refine ⟨some (.int x), some (.lst [.int a3, .int b3, .int c3']), some (.str (tx cs)), some (.int (1 + r)), some (.str ⟨#[l]⟩), some (.str ⟨#[l]⟩), some (.int (num 0 [l] % (1 + r))), some (.int (num 0 (cs.dropLast ++ [l]) % (1 + r) - num 0 (cs.dropLast ++ [97]) % (1 + r))), ?_⟩
  refine (loopF_run (S1 := [some scr, some (.int x), o2, o3, o4, o5, o6, o7, o8]) rfl).trans ?_
  refine (cb_cons (S1 := [some scr, some (.int x), some (.lst [.int a, .int b, .int c]), o3, o4, o5, o6, o7, o8]) (asg_run (call_run (cons_run (var_run rfl) nil_run) rfl hs) rfl)).trans ?_
  refine (cb_cons (S1 := [some scr, some (.int x), some (.lst [.int a1, .int b1, .int c1']), some (.str (tx cs)), o4, o5, o6, o7, o8]) (asg_run (call_run (slot_run rfl nil_run) rfl hlab) rfl)).trans ?_
  refine (cb_cons (S1 := [some scr, some (.int x), some (.lst [.int a2, .int b2, .int c2']), some (.str (tx cs)), some (.int (1 + r)), o5, o6, o7, o8]) (asg_run (prim_run (cons_run k_run (cons_run (call_run (slot_run rfl (cons_run k_run nil_run)) rfl hn) nil_run)) (add_run _ _)) rfl)).trans ?_
  refine (cb_cons (S1 := [some scr, some (.int x), some (.lst [.int a3, .int b3, .int c3']), some (.str (tx cs)), some (.int (1 + r)), some (.str ⟨#[l]⟩), o6, o7, o8]) (asg_run (call_run (slot_run rfl (cons_run k_run nil_run)) rfl hone) rfl)).trans ?_
  refine (cb_cons (S1 := [some scr, some (.int x), some (.lst [.int a3, .int b3, .int c3']), some (.str (tx cs)), some (.int (1 + r)), some (.str ⟨#[l]⟩), some (.str ⟨#[l]⟩), some (.int (num 0 [l] % (1 + r))), o8]) ?_).trans ?_
  · refine (for_run (xs := [.str (tx cs), .str (tx cs.reverse), .str (tx (cs.dropLast ++ [l])), .str (tx [l])]) (cons_run (lst_run (cons_run (var_run rfl) (cons_run (prim_run (cons_run (var_run rfl) nil_run) hrev) (cons_run (prim_run (cons_run (prim_run (cons_run (var_run rfl) (cons_run (prim_run (cons_run k_run nil_run) rfl) nil_run)) hcut) (cons_run (var_run rfl) nil_run)) hal) (cons_run (var_run rfl) nil_run)))) rfl) nil_run) rfl).trans ?_
    refine (walk_cons (inner cs (1 + r) hc (by omega) hm _ _ _ _ _ _ _ _)).trans ?_
    refine (walk_cons (inner cs.reverse (1 + r) (let_rev hc) (by simp; omega) hm _ _ _ _ _ _ _ _)).trans ?_
    refine (walk_cons (inner (cs.dropLast ++ [l]) (1 + r) dl (by simp at nl ⊢; omega) hm _ _ _ _ _ _ _ _)).trans ?_
    exact (walk_cons (inner [l] (1 + r) (let_one hl0 hl1) (by simp) hm _ _ _ _ _ _ _ _)).trans rfl
  · refine (cb_cons (S1 := [some scr, some (.int x), some (.lst [.int a3, .int b3, .int c3']), some (.str (tx cs)), some (.int (1 + r)), some (.str ⟨#[l]⟩), some (.str ⟨#[l]⟩), some (.int (num 0 [l] % (1 + r))), some (.int (num 0 (cs.dropLast ++ [l]) % (1 + r) - num 0 (cs.dropLast ++ [97]) % (1 + r)))])
      (asg_run (prim_run (cons_run (call_run (cons_run (prim_run (cons_run (prim_run (cons_run (var_run rfl) (cons_run (prim_run (cons_run k_run nil_run) rfl) nil_run)) hcut) (cons_run (var_run rfl) nil_run)) hal) (cons_run (var_run rfl) nil_run)) rfl (part_ok _ _ dl hm))
        (cons_run (call_run (cons_run (prim_run (cons_run (prim_run (cons_run (var_run rfl) (cons_run (prim_run (cons_run k_run nil_run) rfl) nil_run)) hcut) (cons_run k_run nil_run)) haa) (cons_run (var_run rfl) nil_run)) rfl (part_ok _ _ da hm)) nil_run)) (sub_run _ _)) rfl)).trans ?_
    refine (cb_cons (if_no (prim_run (cons_run (prim_run (cons_run (prim_run (cons_run (prim_run (cons_run (var_run rfl) (cons_run (prim_run (cons_run (var_run rfl) nil_run) hord) nil_run)) (sub_run _ _)) (cons_run k_run nil_run)) (add_run _ _)) (cons_run (var_run rfl) nil_run)) (mod_run hm)) (cons_run k_run nil_run)) ?_))).trans rfl
    rw [ne_run, gap _ _ (l : Int) (1 + r) (by rw [num_app, num_app]; omega)]
    rfl
theorem law_true (ns : List Int) (hn : ns.length ≤ 63) : ∃ outs, f7.run [scriptD ns] = some (.bl true, outs) := by
  obtain ⟨v, hv⟩ := cell_ok ns
  have hcd : ∃ zs : List Int, Ev.cutD (ns.map D.int) (some 1) (some 16) = zs.map D.int ∧ zs.length ≤ 63 := by
    refine ⟨(ns.drop (HT.sIx (ns.map D.int).length 0 (some 1))).take (HT.sIx (ns.map D.int).length (ns.map D.int).length (some 16) - HT.sIx (ns.map D.int).length 0 (some 1)), ?_, ?_⟩
    · unfold Ev.cutD
      rw [List.map_take, List.map_drop]
    · rw [List.length_take, List.length_drop]; omega
  obtain ⟨zs, hz, hzl⟩ := hcd
  have hit : ∃ S', walk (loopF Ga7 (.slot 1) b7) ([D.int v] ++ zs.map D.int) [some (scriptD ns), none, none, none, none, none, none, none, none] = .ok none S' ∧ ∃ p1 p2 p3 p4 p5 p6 p7 p8, S' = [some (scriptD ns), p1, p2, p3, p4, p5, p6, p7, p8] := by
    refine walk_all (Inv := fun S' => ∃ p1 p2 p3 p4 p5 p6 p7 p8, S' = [some (scriptD ns), p1, p2, p3, p4, p5, p6, p7, p8]) _ (fun d hd S i => ?_) _ ⟨none, none, none, none, none, none, none, none, rfl⟩
    obtain ⟨p1, p2, p3, p4, p5, p6, p7, p8, rfl⟩ := i
    have : ∃ x : Int, d = .int x := by
      rcases List.mem_append.mp hd with hd | hd
      · exact ⟨v, List.mem_singleton.mp hd⟩
      · obtain ⟨x, _, rfl⟩ := List.mem_map.mp hd
        exact ⟨x, rfl⟩
    obtain ⟨x, rfl⟩ := this
    obtain ⟨q1, q2, q3, q4, q5, q6, q7, q8, e⟩ := turn x (scriptD ns) p1 p2 p3 p4 p5 p6 p7 p8
    exact ⟨_, e, q1, q2, q3, q4, q5, q6, q7, q8, rfl⟩
  obtain ⟨S', hw, p1, p2, p3, p4, p5, p6, p7, p8, rfl⟩ := hit
  have hsl : runPr (.slice true true) [scriptD ns, .int 1, .int 16] = some (.lst (zs.map D.int)) := by
    show sliceOf (scriptD ns) (some 1) (some 16) = _
    show some (D.lst (Ev.cutD (ns.map D.int) (some 1) (some 16))) = _
    rw [hz]
  have hadd : runPr .add [.lst [.int v], .lst (zs.map D.int)] = some (.lst ([D.int v] ++ zs.map D.int)) := by
    show (if Ev.sizeOk ([D.int v].length + (zs.map D.int).length) then some (D.lst ([D.int v] ++ zs.map D.int)) else none) = _
    rw [if_pos (size_ok (by simp; omega))]
  have t0 : f0.run [.str (tx [97]), .int 6] = some (.int 1, [.str (tx [97]), .int 6]) := by
    have e : num 0 [97] % 6 = 1 := by decide
    have := part_ok [97] 6 (by unfold Let; decide) (by decide)
    rw [e] at this
    exact this
  have t1 : f0.run [.str (tx [122]), .int 6] = some (.int 2, [.str (tx [122]), .int 6]) := by
    have e : num 0 [122] % 6 = 2 := by decide
    have := part_ok [122] 6 (by unfold Let; decide) (by decide)
    rw [e] at this
    exact this
  have t2 : f0.run [.str (tx [97, 97]), .int 6] = some (.int 4, [.str (tx [97, 97]), .int 6]) := by
    have e : num 0 [97, 97] % 6 = 4 := by decide
    have := part_ok [97, 97] 6 (by unfold Let; decide) (by decide)
    rw [e] at this
    exact this
  have t3 : f0.run [.str (tx [97, 98]), .int 6] = some (.int 5, [.str (tx [97, 98]), .int 6]) := by
    have e : num 0 [97, 98] % 6 = 5 := by decide
    have := part_ok [97, 98] 6 (by unfold Let; decide) (by decide)
    rw [e] at this
    exact this
  have t4 : f0.run [.str (tx [122, 122, 122, 122, 122, 122, 122, 122]), .int 6] = some (.int 2, [.str (tx [122, 122, 122, 122, 122, 122, 122, 122]), .int 6]) := by
    have e : num 0 [122, 122, 122, 122, 122, 122, 122, 122] % 6 = 2 := by decide
    have := part_ok [122, 122, 122, 122, 122, 122, 122, 122] 6 (by unfold Let; decide) (by decide)
    rw [e] at this
    exact this
  have lt : ∀ (z : Str) (u : D) (q : Option D), f0.run [.str z, .int 6] = some (u, [.str z, .int 6]) → lcF Ga7 [3] (.slot 3) .nil (.call 0 (.cons (.var 3) (.cons (.k (.int 6)) .nil))) (.str z) [some (scriptD ns), p1, p2, q, p4, p5, p6, p7, p8] = .ok (some u) [some (scriptD ns), p1, p2, some (.str z), p4, p5, p6, p7, p8] := fun z u q h =>
    lcF_run (S1 := [some (scriptD ns), p1, p2, some (.str z), p4, p5, p6, p7, p8]) rfl (call_run (cons_run (var_run rfl) (cons_run k_run nil_run)) rfl h)
  refine ⟨[scriptD ns], mkFn_run (r := some (.bl true)) (S := [some (scriptD ns), p1, p2, p3, p4, p5, p6, p7, p8]) rfl ?_ rfl rfl⟩
  refine (cb_cons ((for_run (wk := .self) (cons_run (prim_run (cons_run (lst_run (cons_run (call_run (slot_run rfl (cons_run k_run nil_run)) rfl hv) nil_run) rfl) (cons_run (prim_run (slot_run rfl (cons_run k_run (cons_run k_run nil_run))) hsl) nil_run)) hadd) nil_run) rfl).trans hw)).trans ?_
  refine cb_ret (ret_run (prim_run (cons_run (lc_run (xs := [.str (tx [97]), .str (tx [122]), .str (tx [97, 97]), .str (tx [97, 98]), .str (tx [122, 122, 122, 122, 122, 122, 122, 122])]) (ys := [.int 1, .int 2, .int 4, .int 5, .int 2]) (S1 := [some (scriptD ns), p1, p2, p3, p4, p5, p6, p7, p8]) (S6 := [some (scriptD ns), p1, p2, some (.str (tx [122, 122, 122, 122, 122, 122, 122, 122])), p4, p5, p6, p7, p8])
    (cons_run (lst_run (cons_run k_run (cons_run k_run (cons_run k_run (cons_run k_run (cons_run k_run nil_run))))) rfl) nil_run) rfl ?_) (cons_run (lst_run (cons_run k_run (cons_run k_run (cons_run k_run (cons_run k_run (cons_run k_run nil_run))))) rfl) nil_run)) ?_))
  · refine (gather_cons (lt _ _ _ t0) (by simp)).trans ?_
    refine (gather_cons (lt _ _ _ t1) (by simp)).trans ?_
    refine (gather_cons (lt _ _ _ t2) (by simp)).trans ?_
    refine (gather_cons (lt _ _ _ t3) (by simp)).trans ?_
    exact (gather_cons (lt _ _ _ t4) (by simp)).trans rfl
  · show (eqD (.lst [.int 1, .int 2, .int 4, .int 5, .int 2]) (.lst [.int 1, .int 2, .int 4, .int 5, .int 2])).map D.bl = _
    have : eqD (.lst [.int 1, .int 2, .int 4, .int 5, .int 2]) (.lst [.int 1, .int 2, .int 4, .int 5, .int 2]) = some true := by decide +kernel
    rw [this]; rfl
end L17

open PySem PySem.W PySem.Calls PyProof.Rows
theorem PySem.Challenge.cw_sheafhall_k17_parts_of_keys_holds : PySem.Challenge.rw_sheafhall_k17_parts_of_keys.Holds := by
  w_on; o_law
  refine HandSHeadRun.head_any (r := OpenLaw.row PySem.Challenge.rw_sheafhall_k17_parts_of_keys) (q := view (OpenLaw.row PySem.Challenge.rw_sheafhall_k17_parts_of_keys).prog [11]) (H := L17.hk) (ob := L17.ob) (M := 400) (loose := L17.loose) (d := HandSHeadRun.topDef (OpenLaw.row PySem.Challenge.rw_sheafhall_k17_parts_of_keys).prog 11) (kwd := []) L17.ob_eq
    (by kernel_rfl) (fun s => by kernel_rfl) L17.run (by kernel_rfl) (by kernel_rfl) (by kernel_rfl) (by rfl) (by first | assumption | decide +kernel) (by decide +kernel) ⟨rfl, rfl, rfl, rfl, rfl, by decide +kernel⟩ ?hw ?hc
  case hw => w_witness2
  case hc =>
    refine L2.walk_ofE (l := PySem.Challenge.rw_sheafhall_k17_parts_of_keys) (n := 63) (k := 8) (x := "_law_script") (CX := L2.CX0) rfl (by decide) (by kernel_rfl) ⟨rfl, by decide, by decide⟩ ?F (fun _ _ _ _ z => z)
    intro w mg fa h Y G hmg0
    obtain ⟨K, KX, c⟩ := Y
    have hmg : mg ("law" : PySem.Str) = some (.ref fa) := by
      have e : (HandSHeadRun.topDef (OpenLaw.row PySem.Challenge.rw_sheafhall_k17_parts_of_keys).prog 11).name = ("law" : PySem.Str) := by kernel_rfl
      rw [← e]
      exact hmg0
    obtain ⟨fd, hb, hF⟩ := L17.facts (P := (PySem.Challenge.rw_sheafhall_k17_parts_of_keys).prog) (w := w) KX G hmg c
    exact ⟨K, fd, Ev.spOf K L17.sg7 L17.f7, KX, hb, fun H a ns hl _ hS => Ev.law_sp hS Ev.mkFn_len (L17.law_true ns hl), hF⟩
