import PyProof.Rows.All
import Wide.All
import OpenK.AllK
import HandS.ForMost
import HandS.DictComp
import HandS.Deep
import HandS.SortInts
import HandS.IsInst
import HandS.Evl
import HandS.Strs
import HandS.SetFor
import HandS.Flow
import HandS.Defaults
import HandS.TupAny
import Wide.FinOn
import KE.KStateDown
import Lean
import HandS.Base
import HandS.Call
import HandS.Ends
import HandS.More
import HandS.Words
import HandS.WordsExc
import HandS.Head0
import HandS.Head1
import HandS.Head2
import HandS.HeadEnd
import HandS.HeadHook1
import HandS.HeadHook2
import PySem.Challenge.RW_lineworks_k96_uses_and_falling_of_any_pl
set_option Elab.async false
set_option linter.all false
set_option maxRecDepth 100000
set_option maxHeartbeats 4000000
/-! Z1: data over a frozen part of the heap; what a reading evaluates to, told by data alone. -/
namespace Zc
open PySem L2
abbrev Ex := Evl.Ex

/-- a datum: what a frozen value is worth; raw v: just this value -/
inductive T where
  | non | bl (b : Bool) | int (i : Int) | str (x : Str) | lst (xs : List T) | tup (xs : List T) | dct (kvs : List (Key × T)) | raw (v : V)

mutual
inductive Rep (K : PySem.W.Frag) (F : Hp) : V → T → Prop
  | non : Rep K F .non .non
  | bl (b : Bool) : Rep K F (.bl b) (.bl b)
  | int (i : Int) : Rep K F (.int i) (.int i)
  | str (x : Str) : Rep K F (.str x) (.str x)
  | lst {a : Addr} {xs : List V} {ts : List T} : SqL K F a xs → Reps K F xs ts → Rep K F (.ref a) (.lst ts)
  | tup {a : Addr} {xs : List V} {ts : List T} : SqT K F a xs → Reps K F xs ts → Rep K F (.ref a) (.tup ts)
  | dct {a : Addr} {kvs : List (Key × V)} {ts : List (Key × T)} : F a = some (.dK kvs) → RepK K F kvs ts → Rep K F (.ref a) (.dct ts)
  | raw (v : V) : Rep K F v (.raw v)
inductive Reps (K : PySem.W.Frag) (F : Hp) : List V → List T → Prop
  | nil : Reps K F [] []
  | cons {v : V} {vs : List V} {t : T} {ts : List T} : Rep K F v t → Reps K F vs ts → Reps K F (v :: vs) (t :: ts)
inductive RepK (K : PySem.W.Frag) (F : Hp) : List (Key × V) → List (Key × T) → Prop
  | nil : RepK K F [] []
  | cons {k : Key} {v : V} {vs : List (Key × V)} {t : T} {ts : List (Key × T)} : Rep K F v t → RepK K F vs ts → RepK K F ((k, v) :: vs) ((k, t) :: ts)
end
section
variable {K : PySem.W.Frag} {F F' : Hp}
mutual
theorem Rep.mono (e : Ex F F') : ∀ (t : T) (v : V), Rep K F v t → Rep K F' v t
  | .non, _, .non => .non
  | .bl _, _, .bl _ => .bl _
  | .int _, _, .int _ => .int _
  | .str _, _, .str _ => .str _
  | .raw _, _, .raw _ => .raw _
  | .lst ts, _, .lst (xs := xs) h hs => .lst (Evl.ex_l e h) (Reps.mono e ts xs hs)
  | .tup ts, _, .tup (xs := xs) h hs => .tup (Evl.ex_t e h) (Reps.mono e ts xs hs)
  | .dct ts, _, .dct (kvs := xs) h hs => .dct (e _ _ h) (RepK.mono e ts xs hs)
theorem Reps.mono (e : Ex F F') : ∀ (ts : List T) (vs : List V), Reps K F vs ts → Reps K F' vs ts
  | [], _, .nil => .nil
  | t :: ts, _, .cons (v := v) (vs := vs) h hs => .cons (Rep.mono e t v h) (Reps.mono e ts vs hs)
theorem RepK.mono (e : Ex F F') : ∀ (ts : List (Key × T)) (vs : List (Key × V)), RepK K F vs ts → RepK K F' vs ts
  | [], _, .nil => .nil
  | (k, t) :: ts, _, .cons (v := v) (vs := vs) h hs => .cons (Rep.mono e t v h) (RepK.mono e ts vs hs)
end
theorem Rep.up {v : V} {t : T} (h : Rep K F v t) (e : Ex F F') : Rep K F' v t := Rep.mono e t v h
theorem Reps.up {v : List V} {t : List T} (h : Reps K F v t) (e : Ex F F') : Reps K F' v t := Reps.mono e t v h
theorem RepK.up {v : List (Key × V)} {t : List (Key × T)} (h : RepK K F v t) (e : Ex F F') : RepK K F' v t := RepK.mono e t v h
theorem Reps.length : ∀ {vs : List V} {ts : List T}, Reps K F vs ts → vs.length = ts.length
  | _, _, .nil => rfl
  | _, _, .cons _ h => congrArg Nat.succ h.length
theorem RepK.length : ∀ {vs : List (Key × V)} {ts : List (Key × T)}, RepK K F vs ts → vs.length = ts.length
  | _, _, .nil => rfl
  | _, _, .cons _ h => congrArg Nat.succ h.length
theorem Reps.append : ∀ {vs ws : List V} {ts us : List T}, Reps K F vs ts → Reps K F ws us → Reps K F (vs ++ ws) (ts ++ us)
  | _, _, _, _, .nil, h => h
  | _, _, _, _, .cons a b, h => .cons a (Reps.append b h)
theorem Reps.get : ∀ {vs : List V} {ts : List T} {i : Nat} {t : T}, Reps K F vs ts → ts[i]? = some t → ∃ v, vs[i]? = some v ∧ Rep K F v t
  | _, _, _, _, .nil, e => by simp at e
  | _, _, 0, _, .cons a _, e => by
    simp at e
    subst e
    exact ⟨_, rfl, a⟩
  | _, _, i + 1, _, .cons _ b, e => by
    obtain ⟨v, h1, h2⟩ := Reps.get (i := i) b (by simpa using e)
    exact ⟨v, by simpa using h1, h2⟩
theorem Reps.get' : ∀ {vs : List V} {ts : List T} {i : Nat} {v : V}, Reps K F vs ts → vs[i]? = some v → ∃ t, ts[i]? = some t ∧ Rep K F v t
  | _, _, _, _, .nil, e => by simp at e
  | _, _, 0, _, .cons a _, e => by
    simp at e
    subst e
    exact ⟨_, rfl, a⟩
  | _, _, i + 1, _, .cons _ b, e => by
    obtain ⟨v, h1, h2⟩ := Reps.get' (i := i) b (by simpa using e)
    exact ⟨v, by simpa using h1, h2⟩
theorem Reps.take : ∀ {vs : List V} {ts : List T} (n : Nat), Reps K F vs ts → Reps K F (vs.take n) (ts.take n)
  | _, _, 0, _ => .nil
  | _, _, _ + 1, .nil => .nil
  | _, _, n + 1, .cons a b => .cons a (Reps.take n b)
theorem Reps.drop : ∀ {vs : List V} {ts : List T} (n : Nat), Reps K F vs ts → Reps K F (vs.drop n) (ts.drop n)
  | _, _, 0, h => h
  | _, _, _ + 1, .nil => .nil
  | _, _, n + 1, .cons _ b => Reps.drop n b
theorem Reps.dropLast : ∀ {vs : List V} {ts : List T}, Reps K F vs ts → Reps K F vs.dropLast ts.dropLast
  | _, _, .nil => .nil
  | _, _, .cons _ .nil => .nil
  | _, _, .cons a (.cons b c) => .cons a (Reps.dropLast (.cons b c))
theorem Reps.ints : ∀ {vs : List V} {ns : List Int}, Reps K F vs (ns.map T.int) → vs = ns.map V.int
  | [], [], _ => rfl
  | _, _ :: ns, .cons h hs => by
    cases h
    rw [Reps.ints hs]
    rfl
theorem Reps.of_ints (F : Hp) : ∀ ns : List Int, Reps K F (ns.map V.int) (ns.map T.int)
  | [] => .nil
  | n :: ns => .cons (.int n) (Reps.of_ints F ns)
theorem Reps.bls : ∀ {vs : List V} {ns : List Bool}, Reps K F vs (ns.map T.bl) → vs = ns.map V.bl
  | [], [], _ => rfl
  | _, _ :: ns, .cons h hs => by
    cases h
    rw [Reps.bls hs]
    rfl
theorem Reps.of_bls (F : Hp) : ∀ ns : List Bool, Reps K F (ns.map V.bl) (ns.map T.bl)
  | [] => .nil
  | n :: ns => .cons (.bl n) (Reps.of_bls F ns)
theorem Reps.strs' : ∀ {vs : List V} {ns : List Str}, Reps K F vs (ns.map T.str) → vs = ns.map V.str
  | [], [], _ => rfl
  | _, _ :: ns, .cons h hs => by
    cases h
    rw [Reps.strs' hs]
    rfl
theorem Reps.of_strs (F : Hp) : ∀ ns : List Str, Reps K F (ns.map V.str) (ns.map T.str)
  | [] => .nil
  | n :: ns => .cons (.str n) (Reps.of_strs F ns)
end
/-- it leans on no object -/
def T.sc : T → Bool
  | .non => true | .bl _ => true | .int _ => true | .str _ => true | .raw _ => true | _ => false
theorem Rep.sc {K : PySem.W.Frag} {F F' : Hp} {v : V} {t : T} (h : Rep K F v t) (s : t.sc = true) : Rep K F' v t := by
  cases h with
  | non => exact .non
  | bl b => exact .bl b
  | int i => exact .int i
  | str x => exact .str x
  | raw v => exact .raw v
  | lst _ _ => cases s
  | tup _ _ => cases s
  | dct _ _ => cases s

/-- what is shared and changes: G its state, Res what the heap bears of it, P its own addresses, M those that change -/
structure Rs where
  G : Type
  Res : G → Hp → Prop
  P : G → Addr → Prop
  M : G → Addr → Prop
  mp : ∀ {g a}, M g a → P g a
  pn : ∀ {g H a}, Res g H → P g a → H a ≠ none
  put : ∀ {g H b o}, Res g H → ¬ P g b → Res g (upd H b o)

section
variable (K : PySem.W.Frag) (R : Rs)
structure Rs.I (g : R.G) (F H : Hp) : Prop where
  ex : Ex F H
  fm : ∀ a, R.M g a → F a = none
  res : R.Res g H
/-- all that does not change -/
noncomputable def Rs.froz (g : R.G) (H : Hp) : Hp := fun a => by
  classical exact if R.M g a then none else H a
end
section
variable {K : PySem.W.Frag} {R : Rs} {g g' : R.G} {F F' H H' : Hp}
theorem froz_no {a : Addr} (h : R.M g a) : R.froz g H a = none := by
  unfold Rs.froz
  rw [if_pos h]
theorem froz_at {a : Addr} (h : ¬ R.M g a) : R.froz g H a = H a := by
  unfold Rs.froz
  rw [if_neg h]
theorem froz_ex : Ex (R.froz g H) H := fun a o e => by
  by_cases h : R.M g a
  · rw [froz_no h] at e
    cases e
  · rw [froz_at h] at e
    exact e
theorem Rs.I.low (i : R.I g F H) (e : Ex F' F) : R.I g F' H := by
  refine ⟨e.trans i.ex, fun a m => ?_, i.res⟩
  cases q : F' a with
  | none => rfl
  | some o =>
    have := e _ _ q
    rw [i.fm a m] at this
    cases this
theorem Rs.I.all (i : R.I g F H) : R.I g (R.froz g H) H := ⟨froz_ex, fun _ m => froz_no m, i.res⟩
theorem Rs.I.exf (i : R.I g F H) : Ex F (R.froz g H) := fun a o e => by
  have h : ¬ R.M g a := fun m => by
    rw [i.fm a m] at e
    cases e
  rw [froz_at h]
  exact i.ex _ _ e

/-- from one state to another -/
structure Tr (R : Rs) (g : R.G) (F H : Hp) (g' : R.G) (F' H' : Hp) : Prop where
  f : Ex F F'
  nw : ∀ a, F' a ≠ none → F a ≠ none ∨ H a = none ∨ R.P g a
  kp : ∀ a o, H a = some o → ¬ R.M g a → H' a = some o
  al : ∀ a, H a ≠ none → H' a ≠ none
  pp : ∀ a, R.P g' a → R.P g a ∨ H a = none
  mm : ∀ a, R.M g' a → R.M g a ∨ H a = none
theorem Tr.refl : Tr R g F H g F H := ⟨Evl.Ex.refl _, fun _ h => .inl h, fun _ _ h _ => h, fun _ h => h, fun _ h => .inl h, fun _ h => .inl h⟩
theorem none_of {H H' : Hp} (al : ∀ a, H a ≠ none → H' a ≠ none) {a : Addr} (h : H' a = none) : H a = none := by
  cases q : H a with
  | none => rfl
  | some o => exact absurd h (al a (by rw [q]; intro z; cases z))
theorem Tr.trans {g2 : R.G} {F2 H2 : Hp} (a : Tr R g F H g' F' H') (b : Tr R g' F' H' g2 F2 H2) : Tr R g F H g2 F2 H2 := by
  refine ⟨a.f.trans b.f, fun x h => ?_, fun x o h m => ?_, fun x h => b.al x (a.al x h), fun x h => ?_, fun x h => ?_⟩
  · rcases b.nw x h with h | h | h
    · exact a.nw x h
    · exact .inr (.inl (none_of a.al h))
    · rcases a.pp x h with h | h
      · exact .inr (.inr h)
      · exact .inr (.inl h)
  · refine b.kp x o (a.kp x o h m) fun z => ?_
    rcases a.mm x z with z | z
    · exact m z
    · rw [z] at h
      cases h
  · rcases b.pp x h with h | h
    · exact a.pp x h
    · exact .inr (none_of a.al h)
  · rcases b.mm x h with h | h
    · exact a.mm x h
    · exact .inr (none_of a.al h)
theorem ne_none {H : Hp} {a : Addr} {o : HO} (h : H a = some o) : H a ≠ none := by
  rw [h]
  intro z
  cases z
theorem some_of {H : Hp} {a : Addr} (h : H a ≠ none) : ∃ o, H a = some o := by
  cases q : H a with
  | none => exact absurd q h
  | some o => exact ⟨o, rfl⟩
/-- a new object is laid and frozen -/
theorem Tr.new {p : Addr} {o : HO} (i : R.I g F H) (h : H p = none) : Tr R g F H g (upd F p o) (upd H p o) ∧ R.I g (upd F p o) (upd H p o) := by
  have fp : F p = none := Evl.fresh_back i.ex h
  have np : ¬ R.P g p := fun z => R.pn i.res z h
  refine ⟨⟨Evl.Ex.new fp, fun a q => ?_, fun a u q _ => by rw [upd_ne (ne_of_none q h)]; exact q, fun a q => ?_, fun _ z => .inl z, fun _ z => .inl z⟩, ⟨fun a u q => ?_, fun a m => ?_, R.put i.res np⟩⟩
  · by_cases e : a = p
    · subst e
      exact .inr (.inl h)
    · rw [upd_ne e] at q
      exact .inl q
  · obtain ⟨u, q⟩ := some_of q
    rw [upd_ne (ne_of_none q h)]
    exact ne_none q
  · by_cases e : a = p
    · subst e
      rw [upd_same] at q
      rw [upd_same]
      exact q
    · rw [upd_ne e] at q
      rw [upd_ne e]
      exact i.ex _ _ q
  · have e : a ≠ p := fun e => np (R.mp (e ▸ m))
    rw [upd_ne e]
    exact i.fm a m
/-- a new object is laid, not frozen -/
theorem Tr.lay {p : Addr} {o : HO} (i : R.I g F H) (h : H p = none) : Tr R g F H g F (upd H p o) ∧ R.I g F (upd H p o) := by
  obtain ⟨t, j⟩ := Tr.new (o := o) i h
  refine ⟨⟨Evl.Ex.refl _, fun _ h => .inl h, t.kp, t.al, t.pp, t.mm⟩, j.low ?_⟩
  exact Evl.Ex.new (Evl.fresh_back i.ex h)
end
end Zc
/-! Z2: what the slots hold, and what readings come to, by data. -/
namespace Zc
open PySem L2

inductive Ent where
  | any | dat (t : T) | bor (t : T) | lst (ts : List T) | dk (kvs : List (Key × T))
def Ent.own : Ent → Bool
  | .lst _ => true | .dk _ => true | _ => false
def Ent.thaw : Ent → Ent
  | .any => .any | .dat t => .dat t | .bor t => .dat t | .lst ts => .dat (.lst ts) | .dk kvs => .dat (.dct kvs)
def Ent.val : Ent → Option T
  | .any => none | .dat t => some t | .bor t => some t | .lst ts => some (.lst ts) | .dk kvs => some (.dct kvs)
structure Bs (R : Rs) where
  g : R.G
  F : Hp
  H : Hp
section
variable (K : PySem.W.Frag) (R : Rs) (B : Bs R)
def EntOk (g : R.G) (F H : Hp) (s : Option V) : Ent → Prop
  | .any => True
  | .dat t => ∃ v, s = some v ∧ Rep K F v t
  | .bor t => ∃ v, s = some v ∧ Rep K (R.froz B.g B.H) v t
  | .lst ts => ∃ a vs, s = some (.ref a) ∧ H a = some (.lst vs) ∧ F a = none ∧ ¬ R.P g a ∧ B.H a = none ∧ Reps K F vs ts
  | .dk ts => ∃ a vs, s = some (.ref a) ∧ H a = some (.dK vs) ∧ F a = none ∧ ¬ R.P g a ∧ B.H a = none ∧ RepK K F vs ts
structure Ok (g : R.G) (es : List Ent) (F : Hp) (σ : L2.St) (H : Hp) : Prop where
  i : R.I g F H
  t : Tr R B.g B.F B.H g F H
  len : σ.length = es.length
  ent : ∀ (i : Nat) e, es[i]? = some e → ∃ s, σ[i]? = some s ∧ EntOk K R B g F H s e
  dis : ∀ (i j : Nat) e e' (a : Addr), i ≠ j → es[i]? = some e → es[j]? = some e' → e.own = true → e'.own = true → σ[i]? = some (some (.ref a)) → σ[j]? = some (some (.ref a)) → False
end
def OwnA (es : List Ent) (σ : L2.St) (a : Addr) : Prop := ∃ (i : Nat) (e : Ent), es[i]? = some e ∧ e.own = true ∧ σ[i]? = some (some (.ref a))
structure Lc (R : Rs) (σ : L2.St) (g : R.G) (es : List Ent) (F H : Hp) (g' : R.G) (es' : List Ent) (F' H' : Hp) : Prop where
  f : Ex F F'
  nw : ∀ a, F' a ≠ none → F a ≠ none ∨ H a = none ∨ R.P g a ∨ OwnA es σ a
  kp : ∀ a o, H a = some o → ¬ R.M g a → ¬ OwnA es σ a → H' a = some o
  al : ∀ a, H a ≠ none → H' a ≠ none
  pp : ∀ a, R.P g' a → R.P g a ∨ H a = none
  mm : ∀ a, R.M g' a → R.M g a ∨ H a = none
  ow : ∀ a, OwnA es' σ a → OwnA es σ a
section
variable {K : PySem.W.Frag} {R : Rs} {B : Bs R} {g g' g2 : R.G} {es es' es2 : List Ent} {F F' F2 H H' H2 : Hp} {σ σ' : L2.St}
theorem Lc.refl : Lc R σ g es F H g es F H := ⟨Evl.Ex.refl _, fun _ h => .inl h, fun _ _ h _ _ => h, fun _ h => h, fun _ h => .inl h, fun _ h => .inl h, fun _ h => h⟩
theorem Lc.trans (a : Lc R σ g es F H g' es' F' H') (b : Lc R σ g' es' F' H' g2 es2 F2 H2) : Lc R σ g es F H g2 es2 F2 H2 := by
  refine ⟨a.f.trans b.f, fun x h => ?_, fun x o h m n => ?_, fun x h => b.al x (a.al x h), fun x h => ?_, fun x h => ?_, fun x h => a.ow x (b.ow x h)⟩
  · rcases b.nw x h with h | h | h | h
    · exact a.nw x h
    · exact .inr (.inl (none_of a.al h))
    · rcases a.pp x h with h | h
      · exact .inr (.inr (.inl h))
      · exact .inr (.inl h)
    · exact .inr (.inr (.inr (a.ow x h)))
  · refine b.kp x o (a.kp x o h m n) (fun z => ?_) fun z => n (a.ow x z)
    rcases a.mm x z with z | z
    · exact m z
    · rw [z] at h
      cases h
  · rcases b.pp x h with h | h
    · exact a.pp x h
    · exact .inr (none_of a.al h)
  · rcases b.mm x h with h | h
    · exact a.mm x h
    · exact .inr (none_of a.al h)
theorem Lc.of (a : Tr R g F H g' F' H') : Lc R σ g es F H g' es F' H' := by
  refine ⟨a.f, fun x h => ?_, fun x o h m _ => a.kp x o h m, a.al, a.pp, a.mm, fun _ h => h⟩
  rcases a.nw x h with h | h | h
  · exact .inl h
  · exact .inr (.inl h)
  · exact .inr (.inr (.inl h))
theorem EntOk.step {s : Option V} {e : Ent} (x : EntOk K R B g F H s e) (a : Tr R g F H g' F' H') : EntOk K R B g' F' H' s e := by
  have own : ∀ {b : Addr} {o : HO}, H b = some o → F b = none → ¬ R.P g b → H' b = some o ∧ F' b = none ∧ ¬ R.P g' b := fun {b o} h1 h2 h3 => by
    refine ⟨a.kp b o h1 fun z => h3 (R.mp z), ?_, fun z => ?_⟩
    · cases q : F' b with
      | none => rfl
      | some u =>
        rcases a.nw b (ne_none q) with z | z | z
        · exact absurd h2 z
        · rw [z] at h1
          cases h1
        · exact absurd z h3
    · rcases a.pp b z with z | z
      · exact h3 z
      · rw [z] at h1
        cases h1
  cases e with
  | any => trivial
  | dat t =>
    obtain ⟨v, h1, h2⟩ := x
    exact ⟨v, h1, h2.up a.f⟩
  | bor t => exact x
  | lst ts =>
    obtain ⟨b, vs, h1, h2, h3, h4, h5, h6⟩ := x
    obtain ⟨q1, q2, q3⟩ := own h2 h3 h4
    exact ⟨b, vs, h1, q1, q2, q3, h5, h6.up a.f⟩
  | dk ts =>
    obtain ⟨b, vs, h1, h2, h3, h4, h5, h6⟩ := x
    obtain ⟨q1, q2, q3⟩ := own h2 h3 h4
    exact ⟨b, vs, h1, q1, q2, q3, h5, h6.up a.f⟩
theorem Ok.step (x : Ok K R B g es F σ H) (a : Tr R g F H g' F' H') (i : R.I g' F' H') : Ok K R B g' es F' σ H' := by
  refine ⟨i, x.t.trans a, x.len, fun j e h => ?_, x.dis⟩
  obtain ⟨s, h1, h2⟩ := x.ent j e h
  exact ⟨s, h1, h2.step a⟩
theorem Ok.ownH (x : Ok K R B g es F σ H) {a : Addr} (h : OwnA es σ a) : H a ≠ none ∧ F a = none ∧ ¬ R.P g a ∧ B.H a = none := by
  obtain ⟨i, e, h1, h2, h3⟩ := h
  obtain ⟨s, h4, h5⟩ := x.ent i e h1
  rw [h3] at h4
  cases h4
  cases e with
  | lst ts =>
    obtain ⟨b, vs, q1, q2, q3, q4, q5, _⟩ := h5
    cases q1
    exact ⟨ne_none q2, q3, q4, q5⟩
  | dk ts =>
    obtain ⟨b, vs, q1, q2, q3, q4, q5, _⟩ := h5
    cases q1
    exact ⟨ne_none q2, q3, q4, q5⟩
  | any => cases h2
  | dat t => cases h2
  | bor t => cases h2
theorem set_get {α : Type} {l : List α} {i j : Nat} {a b : α} (h : (l.set i a)[j]? = some b) : (i = j ∧ b = a ∧ i < l.length) ∨ (i ≠ j ∧ l[j]? = some b) := by
  by_cases e : i = j
  · subst e
    by_cases hl : i < l.length
    · rw [List.getElem?_set_self hl] at h
      exact .inl ⟨rfl, (Option.some.inj h).symm, hl⟩
    · rw [List.getElem?_eq_none (by simpa using hl)] at h
      cases h
  · rw [List.getElem?_set_ne e] at h
    exact .inr ⟨e, h⟩
theorem Ok.set (x : Ok K R B g es F σ H) {i : Nat} {v : V} {t : T} (r : Rep K F v t) : Ok K R B g (es.set i (.dat t)) F (σ.set i (some v)) H := by
  refine ⟨x.i, x.t, by simp [x.len], fun j e h => ?_, fun j k e e' a n h1 h2 h3 h4 h5 h6 => ?_⟩
  · rcases set_get h with ⟨rfl, rfl, hl⟩ | ⟨ne, h⟩
    · exact ⟨some v, List.getElem?_set_self (by rw [x.len]; exact hl), v, rfl, r⟩
    · obtain ⟨s, q1, q2⟩ := x.ent j e h
      exact ⟨s, by rw [List.getElem?_set_ne ne]; exact q1, q2⟩
  · rcases set_get h1 with ⟨rfl, rfl, _⟩ | ⟨n1, k1⟩
    · cases h3
    · rcases set_get h2 with ⟨rfl, rfl, _⟩ | ⟨n2, k2⟩
      · cases h4
      · rw [List.getElem?_set_ne n1] at h5
        rw [List.getElem?_set_ne n2] at h6
        exact x.dis j k e e' a n k1 k2 h3 h4 h5 h6
/-- the slot's entry alone is changed -/
theorem Ok.ent_set (x : Ok K R B g es F σ H) {i : Nat} {s : Option V} {e : Ent} (hs : σ[i]? = some s) (r : EntOk K R B g F H s e) (he : e.own = true → ∀ a, s = some (.ref a) → ¬ OwnA (es.set i .any) σ a) : Ok K R B g (es.set i e) F σ H := by
  refine ⟨x.i, x.t, by simp [x.len], fun j e' h => ?_, fun j k e1 e2 a n h1 h2 h3 h4 h5 h6 => ?_⟩
  · rcases set_get h with ⟨rfl, rfl, hl⟩ | ⟨ne, h⟩
    · exact ⟨s, hs, r⟩
    · exact x.ent j e' h
  · rcases set_get h1 with ⟨rfl, rfl, _⟩ | ⟨n1, k1⟩
    · rcases set_get h2 with ⟨rfl, rfl, _⟩ | ⟨n2, k2⟩
      · exact n rfl
      · rw [hs] at h5
        cases h5
        exact he h3 a rfl ⟨k, e2, by rw [List.getElem?_set_ne n2]; exact k2, h4, h6⟩
    · rcases set_get h2 with ⟨rfl, rfl, _⟩ | ⟨n2, k2⟩
      · rw [hs] at h6
        cases h6
        exact he h4 a rfl ⟨j, e1, by rw [List.getElem?_set_ne n1]; exact k1, h3, h5⟩
      · exact x.dis j k e1 e2 a n k1 k2 h3 h4 h5 h6
theorem Ok.setOwn (x : Ok K R B g es F σ H) {i : Nat} {a : Addr} {e : Ent} (r : EntOk K R B g F H (some (.ref a)) e) (n : ¬ OwnA es σ a) : Ok K R B g (es.set i e) F (σ.set i (some (.ref a))) H := by
  refine ⟨x.i, x.t, by simp [x.len], fun j e' h => ?_, fun j k e1 e2 b ne h1 h2 h3 h4 h5 h6 => ?_⟩
  · rcases set_get h with ⟨rfl, rfl, hl⟩ | ⟨ne, h⟩
    · exact ⟨_, List.getElem?_set_self (by rw [x.len]; exact hl), r⟩
    · obtain ⟨s, q1, q2⟩ := x.ent j e' h
      exact ⟨s, by rw [List.getElem?_set_ne ne]; exact q1, q2⟩
  · rcases set_get h1 with ⟨rfl, rfl, hl⟩ | ⟨n1, k1⟩
    · rcases set_get h2 with ⟨rfl, rfl, _⟩ | ⟨n2, k2⟩
      · exact ne rfl
      · rw [List.getElem?_set_self (by rw [x.len]; exact hl)] at h5
        rw [List.getElem?_set_ne n2] at h6
        cases h5
        exact n ⟨k, e2, k2, h4, h6⟩
    · rcases set_get h2 with ⟨rfl, rfl, hl⟩ | ⟨n2, k2⟩
      · rw [List.getElem?_set_self (by rw [x.len]; exact hl)] at h6
        rw [List.getElem?_set_ne n1] at h5
        cases h6
        exact n ⟨j, e1, k1, h3, h5⟩
      · rw [List.getElem?_set_ne n1] at h5
        rw [List.getElem?_set_ne n2] at h6
        exact x.dis j k e1 e2 b ne k1 k2 h3 h4 h5 h6
/-- an own object (of slot i) is changed -/
theorem Ok.chg (x : Ok K R B g es F σ H) {i : Nat} {a : Addr} {o : HO} {e : Ent} (ha : OwnA es σ a) (hi : σ[i]? = some (some (.ref a))) (hown : ∃ e0, es[i]? = some e0 ∧ e0.own = true) (r : EntOk K R B g F (upd H a o) (some (.ref a)) e) :
    Ok K R B g (es.set i e) F σ (upd H a o) := by
  obtain ⟨hH, hF, hP, hB⟩ := x.ownH ha
  obtain ⟨e0, hi0, ho0⟩ := hown
  have tr : Tr R B.g B.F B.H g F (upd H a o) := by
    refine ⟨x.t.f, x.t.nw, fun b u q m => ?_, fun b q => ?_, x.t.pp, x.t.mm⟩
    · rw [upd_ne (ne_of_none q hB)]
      exact x.t.kp b u q m
    · obtain ⟨u, q'⟩ := some_of q
      rw [upd_ne (ne_of_none q' hB)]
      exact x.t.al b q
  have ii : R.I g F (upd H a o) := ⟨fun b u q => by rw [upd_ne (ne_of_none q hF)]; exact x.i.ex b u q, x.i.fm, R.put x.i.res hP⟩
  refine ⟨ii, tr, by simp [x.len], fun j e' h => ?_, fun j k e1 e2 b ne h1 h2 h3 h4 h5 h6 => ?_⟩
  · rcases set_get h with ⟨rfl, rfl, hl⟩ | ⟨ne, h⟩
    · exact ⟨_, hi, r⟩
    · obtain ⟨s, q1, q2⟩ := x.ent j e' h
      refine ⟨s, q1, ?_⟩
      cases e' with
      | any => trivial
      | dat t => exact q2
      | bor t => exact q2
      | lst ts =>
        obtain ⟨b, vs, z1, z2, z3⟩ := q2
        refine ⟨b, vs, z1, ?_, z3⟩
        have : b ≠ a := fun z => by
          subst z
          rw [z1] at q1
          exact x.dis i j e0 (.lst ts) b ne hi0 h ho0 rfl hi q1
        rw [upd_ne this]
        exact z2
      | dk ts =>
        obtain ⟨b, vs, z1, z2, z3⟩ := q2
        refine ⟨b, vs, z1, ?_, z3⟩
        have : b ≠ a := fun z => by
          subst z
          rw [z1] at q1
          exact x.dis i j e0 (.dk ts) b ne hi0 h ho0 rfl hi q1
        rw [upd_ne this]
        exact z2
  · rcases set_get h1 with ⟨rfl, rfl, _⟩ | ⟨n1, k1⟩
    · rcases set_get h2 with ⟨rfl, rfl, _⟩ | ⟨n2, k2⟩
      · exact ne rfl
      · exact x.dis i k e0 e2 b n2 hi0 k2 ho0 h4 h5 h6
    · rcases set_get h2 with ⟨rfl, rfl, _⟩ | ⟨n2, k2⟩
      · exact x.dis j i e1 e0 b (Ne.symm n1) k1 hi0 h3 ho0 h5 h6
      · exact x.dis j k e1 e2 b ne k1 k2 h3 h4 h5 h6
/-- an object that no slot owns, of ours -/
theorem Ok.put (x : Ok K R B g es F σ H) {a : Addr} {o : HO} (hF : F a = none) (hP : ¬ R.P g a) (hB : B.H a = none) (hn : ¬ OwnA es σ a) : Ok K R B g es F σ (upd H a o) := by
  have tr : Tr R B.g B.F B.H g F (upd H a o) := by
    refine ⟨x.t.f, x.t.nw, fun b u q m => ?_, fun b q => ?_, x.t.pp, x.t.mm⟩
    · rw [upd_ne (ne_of_none q hB)]
      exact x.t.kp b u q m
    · obtain ⟨u, q'⟩ := some_of q
      rw [upd_ne (ne_of_none q' hB)]
      exact x.t.al b q
  have ii : R.I g F (upd H a o) := ⟨fun b u q => by rw [upd_ne (ne_of_none q hF)]; exact x.i.ex b u q, x.i.fm, R.put x.i.res hP⟩
  refine ⟨ii, tr, x.len, fun j e' h => ?_, x.dis⟩
  obtain ⟨s, q1, q2⟩ := x.ent j e' h
  refine ⟨s, q1, ?_⟩
  cases e' with
  | any => trivial
  | dat t => exact q2
  | bor t => exact q2
  | lst ts =>
    obtain ⟨b, vs, z1, z2, z3⟩ := q2
    refine ⟨b, vs, z1, ?_, z3⟩
    rw [upd_ne (fun z => hn ⟨j, .lst ts, h, rfl, by rw [q1, z1, z]⟩)]
    exact z2
  | dk ts =>
    obtain ⟨b, vs, z1, z2, z3⟩ := q2
    refine ⟨b, vs, z1, ?_, z3⟩
    rw [upd_ne (fun z => hn ⟨j, .dk ts, h, rfl, by rw [q1, z1, z]⟩)]
    exact z2
/-- an object of ours is frozen -/
theorem Ok.frz (x : Ok K R B g es F σ H) {a : Addr} {o : HO} (hH : H a = some o) (hF : F a = none) (hP : ¬ R.P g a) (hB : B.H a = none) (hn : ¬ OwnA es σ a) : Ok K R B g es (upd F a o) σ H := by
  have ex : Ex F (upd F a o) := Evl.Ex.new hF
  have tr : Tr R B.g B.F B.H g (upd F a o) H := by
    refine ⟨x.t.f.trans ex, fun b q => ?_, x.t.kp, x.t.al, x.t.pp, x.t.mm⟩
    by_cases e : b = a
    · subst e
      exact .inr (.inl hB)
    · rw [upd_ne e] at q
      exact x.t.nw b q
  have ii : R.I g (upd F a o) H := by
    refine ⟨fun b u q => ?_, fun b m => ?_, x.i.res⟩
    · by_cases e : b = a
      · subst e
        rw [upd_same] at q
        rw [← q]
        exact hH
      · rw [upd_ne e] at q
        exact x.i.ex b u q
    · have e : b ≠ a := fun e => hP (R.mp (e ▸ m))
      rw [upd_ne e]
      exact x.i.fm b m
  refine ⟨ii, tr, x.len, fun j e' h => ?_, x.dis⟩
  obtain ⟨s, q1, q2⟩ := x.ent j e' h
  refine ⟨s, q1, ?_⟩
  cases e' with
  | any => trivial
  | dat t =>
    obtain ⟨v, h1, h2⟩ := q2
    exact ⟨v, h1, h2.up ex⟩
  | bor t => exact q2
  | lst ts =>
    obtain ⟨b, vs, z1, z2, z3, z4, z5, z6⟩ := q2
    refine ⟨b, vs, z1, z2, ?_, z4, z5, z6.up ex⟩
    rw [upd_ne (fun z => hn ⟨j, .lst ts, h, rfl, by rw [q1, z1, z]⟩)]
    exact z3
  | dk ts =>
    obtain ⟨b, vs, z1, z2, z3, z4, z5, z6⟩ := q2
    refine ⟨b, vs, z1, z2, ?_, z4, z5, z6.up ex⟩
    rw [upd_ne (fun z => hn ⟨j, .dk ts, h, rfl, by rw [q1, z1, z]⟩)]
    exact z3
/-- an entry forgotten -/
theorem Ok.forget (x : Ok K R B g es F σ H) (i : Nat) : Ok K R B g (es.set i .any) F σ H := by
  by_cases h : i < σ.length
  · exact x.ent_set (s := σ[i]) (by simp [h]) trivial fun z => by cases z
  · rw [List.set_eq_of_length_le (by rw [← x.len]; omega)]
    exact x
theorem OwnA.set {i : Nat} {e : Ent} {a : Addr} (h : OwnA (es.set i e) σ a) (he : e.own = false) : OwnA es σ a := by
  obtain ⟨j, e', h1, h2, h3⟩ := h
  rcases set_get h1 with ⟨rfl, rfl, _⟩ | ⟨n, h1⟩
  · rw [he] at h2
    cases h2
  · exact ⟨j, e', h1, h2, h3⟩
theorem OwnA.setO {i : Nat} {e : Ent} {a : Addr} (h : OwnA (es.set i e) σ a) (he : ∃ e0, es[i]? = some e0 ∧ e0.own = true) : OwnA es σ a := by
  obtain ⟨j, e', h1, h2, h3⟩ := h
  rcases set_get h1 with ⟨rfl, rfl, _⟩ | ⟨n, h1⟩
  · obtain ⟨e0, q1, q2⟩ := he
    exact ⟨i, e0, q1, q2, h3⟩
  · exact ⟨j, e', h1, h2, h3⟩
end
end Zc
/-! Z3: expressions, tests, arguments, calls, statements. -/
namespace Zc
open PySem L2

section
variable (K : PySem.W.Frag) (R : Rs) (B : Bs R)
def wE (te : TE) (g : R.G) (es : List Ent) (post : T → R.G → List Ent → Prop) : Prop :=
  ∀ F σ H, Ok K R B g es F σ H → ∀ Q : VK, (∀ v t g' es' F' H', Lc R σ g es F H g' es' F' H' → Ok K R B g' es' F' σ H' → Rep K F' v t → post t g' es' → Q v H') → te σ H Q
def wT (tt : TT) (g : R.G) (es : List Ent) (post : Bool → R.G → List Ent → Prop) : Prop :=
  ∀ F σ H, Ok K R B g es F σ H → ∀ Q : Bool → Hp → Prop, (∀ b g' es' F' H', Lc R σ g es F H g' es' F' H' → Ok K R B g' es' F' σ H' → post b g' es' → Q b H') → tt σ H Q
def wA (ta : TA) (g : R.G) (es : List Ent) (post : List T → R.G → List Ent → Prop) : Prop :=
  ∀ F σ H, Ok K R B g es F σ H → ∀ Q : List V → Hp → Prop, (∀ v t g' es' F' H', Lc R σ g es F H g' es' F' H' → Ok K R B g' es' F' σ H' → Reps K F' v t → post t g' es' → Q v H') → ta σ H Q
/-- a slice's bound -/
def wO (to : TO) (g : R.G) (es : List Ent) (post : Option Int → R.G → List Ent → Prop) : Prop :=
  ∀ F σ H, Ok K R B g es F σ H → ∀ Q : Option Int → Hp → Prop, (∀ o g' es' F' H', Lc R σ g es F H g' es' F' H' → Ok K R B g' es' F' σ H' → post o g' es' → Q o H') → to σ H Q
/-- values: an operation of two, of one, a call on many -/
def wR (r : R2) (x y : T) (post : T → Prop) : Prop := ∀ g F H vx vy, R.I g F H → Rep K F vx x → Rep K F vy y → ∀ Q : VK,
  (∀ v t F' H', Tr R g F H g F' H' → R.I g F' H' → Rep K F' v t → post t → Q v H') → r vx vy H Q
def wU (r : V → Hp → VK → Prop) (x : T) (post : T → Prop) : Prop := ∀ g F H vx, R.I g F H → Rep K F vx x → ∀ Q : VK,
  (∀ v t F' H', Tr R g F H g F' H' → R.I g F' H' → Rep K F' v t → post t → Q v H') → r vx H Q
def wC (r : List V → Hp → VK → Prop) (x : List T) (post : T → Prop) : Prop := ∀ g F H vx, R.I g F H → Reps K F vx x → ∀ Q : VK,
  (∀ v t F' H', Tr R g F H g F' H' → R.I g F' H' → Rep K F' v t → post t → Q v H') → r vx H Q
def wM (r : V → List V → Hp → VK → Prop) (x : T) (y : List T) (post : T → Prop) : Prop := ∀ g F H vx vy, R.I g F H → Rep K F vx x → Reps K F vy y → ∀ Q : VK,
  (∀ v t F' H', Tr R g F H g F' H' → R.I g F' H' → Rep K F' v t → post t → Q v H') → r vx vy H Q
end
structure Po (R : Rs) where
  nx : R.G → List Ent → Prop
  rt : T → R.G → Prop
  bk : R.G → List Ent → Prop := fun _ _ => False
  ct : R.G → List Ent → Prop := fun _ _ => False
section
variable (K : PySem.W.Frag) (R : Rs) (B : Bs R)
structure Ens (P : Po R) (F : Hp) (D : Ends) : Prop where
  nx : ∀ g' es' F' σ' H', Ex F F' → Ok K R B g' es' F' σ' H' → P.nx g' es' → D.nx σ' H'
  rt : ∀ v t g' F' H', Ex F F' → R.I g' F' H' → Tr R B.g B.F B.H g' F' H' → Rep K F' v t → P.rt t g' → D.rt v H'
  bk : ∀ g' es' F' σ' H', Ex F F' → Ok K R B g' es' F' σ' H' → P.bk g' es' → D.bk σ' H'
  ct : ∀ g' es' F' σ' H', Ex F F' → Ok K R B g' es' F' σ' H' → P.ct g' es' → D.ct σ' H'
def wS (ts : TS) (g : R.G) (es : List Ent) (P : Po R) : Prop := ∀ F σ H, Ok K R B g es F σ H → ∀ D : Ends, Ens K R B P F D → ts D σ H
end
section
variable {K : PySem.W.Frag} {R : Rs} {B : Bs R} {g g' : R.G} {es es' : List Ent} {F F' H H' : Hp} {σ : L2.St} {ta tb te : TE} {tt tu : TT} {post : T → R.G → List Ent → Prop} {pb : Bool → R.G → List Ent → Prop} {pl : List T → R.G → List Ent → Prop} {P : Po R}
theorem Ens.up {D : Ends} (x : Ens K R B P F D) (e : Ex F F') : Ens K R B P F' D :=
  ⟨fun g' es' F2 σ' H' q => x.nx g' es' F2 σ' H' (e.trans q), fun v t g' F2 H' q => x.rt v t g' F2 H' (e.trans q), fun g' es' F2 σ' H' q => x.bk g' es' F2 σ' H' (e.trans q), fun g' es' F2 σ' H' q => x.ct g' es' F2 σ' H' (e.trans q)⟩

/-! ### values -/
theorem we_mono {post' : T → R.G → List Ent → Prop} (h : wE K R B te g es post) (m : ∀ t g es, post t g es → post' t g es) : wE K R B te g es post' :=
  fun F σ H ok Q q => h F σ H ok Q fun v t g' es' F' H' l o r p => q v t g' es' F' H' l o r (m _ _ _ p)
theorem we_c {v : V} {t : T} (r : ∀ F, Rep K F v t) (h : post t g es) : wE K R B (tC v) g es post := fun F σ H ok Q q => q _ _ _ _ _ _ .refl ok (r F) h
theorem we_int {i : Int} (h : post (.int i) g es) : wE K R B (tC (.int i)) g es post := we_c (fun _ => .int i) h
theorem we_str {i : Str} (h : post (.str i) g es) : wE K R B (tC (.str i)) g es post := we_c (fun _ => .str i) h
theorem we_bl {i : Bool} (h : post (.bl i) g es) : wE K R B (tC (.bl i)) g es post := we_c (fun _ => .bl i) h
theorem we_non (h : post .non g es) : wE K R B (tC .non) g es post := we_c (fun _ => .non) h
theorem we_raw {v : V} (h : post (.raw v) g es) : wE K R B (tC v) g es post := we_c (fun _ => .raw v) h
theorem we_var {i : Nat} {t : T} (e : es[i]? = some (.dat t)) (h : post t g es) : wE K R B (tVar i) g es post := fun F σ H ok Q q => by
  obtain ⟨s, h1, v, rfl, r⟩ := ok.ent i _ e
  exact ⟨v, h1, q _ _ _ _ _ _ .refl ok r h⟩
theorem we_own {i : Nat} {ts : List T} (e : es[i]? = some (.lst ts)) (h : post (.lst ts) g (es.set i (.dat (.lst ts)))) : wE K R B (tVar i) g es post := fun F σ H ok Q q => by
  obtain ⟨s, h1, a, vs, rfl, hH, hF, hP, hB, r⟩ := ok.ent i _ e
  refine ⟨_, h1, ?_⟩
  have ow : OwnA es σ a := ⟨i, _, e, rfl, h1⟩
  have ok1 : Ok K R B g (es.set i .any) F σ H := ok.forget i
  have nn : ¬ OwnA (es.set i .any) σ a := fun z => by
    obtain ⟨j, e', q1, q2, q3⟩ := z
    rcases set_get q1 with ⟨rfl, rfl, _⟩ | ⟨n, q1⟩
    · cases q2
    · exact ok.dis i j _ _ a n e q1 rfl q2 h1 q3
  have ok2 := ok1.frz hH hF hP hB nn
  have rr : Rep K (upd F a (.lst vs)) (.ref a) (.lst ts) := .lst (Evl.sq_of upd_same) (r.up (Evl.Ex.new hF))
  have ok3 := ok2.ent_set (i := i) (e := .dat (.lst ts)) h1 ⟨_, rfl, rr⟩ (fun z => by cases z)
  rw [List.set_set] at ok3
  refine q _ _ g _ _ H ?_ ok3 rr h
  refine ⟨Evl.Ex.new hF, fun b z => ?_, fun _ _ h _ _ => h, fun _ h => h, fun _ h => .inl h, fun _ h => .inl h, fun b z => z.set rfl⟩
  by_cases eb : b = a
  · subst eb
    exact .inr (.inr (.inr ow))
  · rw [upd_ne eb] at z
    exact .inl z
theorem we_ownD {i : Nat} {ts : List (Key × T)} (e : es[i]? = some (.dk ts)) (h : post (.dct ts) g (es.set i (.dat (.dct ts)))) : wE K R B (tVar i) g es post := fun F σ H ok Q q => by
  obtain ⟨s, h1, a, vs, rfl, hH, hF, hP, hB, r⟩ := ok.ent i _ e
  refine ⟨_, h1, ?_⟩
  have ow : OwnA es σ a := ⟨i, _, e, rfl, h1⟩
  have ok1 : Ok K R B g (es.set i .any) F σ H := ok.forget i
  have nn : ¬ OwnA (es.set i .any) σ a := fun z => by
    obtain ⟨j, e', q1, q2, q3⟩ := z
    rcases set_get q1 with ⟨rfl, rfl, _⟩ | ⟨n, q1⟩
    · cases q2
    · exact ok.dis i j _ _ a n e q1 rfl q2 h1 q3
  have ok2 := ok1.frz hH hF hP hB nn
  have rr : Rep K (upd F a (.dK vs)) (.ref a) (.dct ts) := .dct upd_same (r.up (Evl.Ex.new hF))
  have ok3 := ok2.ent_set (i := i) (e := .dat (.dct ts)) h1 ⟨_, rfl, rr⟩ (fun z => by cases z)
  rw [List.set_set] at ok3
  refine q _ _ g _ _ H ?_ ok3 rr h
  refine ⟨Evl.Ex.new hF, fun b z => ?_, fun _ _ h _ _ => h, fun _ h => h, fun _ h => .inl h, fun _ h => .inl h, fun b z => z.set rfl⟩
  by_cases eb : b = a
  · subst eb
    exact .inr (.inr (.inr ow))
  · rw [upd_ne eb] at z
    exact .inl z
/-- read, not kept: what is a number, a truth value, a text in the end -/
theorem thaw_get {l : List Ent} {i : Nat} {e : Ent} (h : (l.map Ent.thaw)[i]? = some e) : ∃ e0, l[i]? = some e0 ∧ e = e0.thaw := by
  rw [List.getElem?_map] at h
  cases q : l[i]? with
  | none =>
    rw [q] at h
    cases h
  | some e0 =>
    rw [q] at h
    exact ⟨e0, rfl, (Option.some.inj h).symm⟩
theorem Ok.bfroz (ok : Ok K R B g es F σ H) : Ex (R.froz B.g B.H) (R.froz g H) := fun a o q => by
  have nm : ¬ R.M B.g a := fun m => by
    rw [froz_no m] at q
    cases q
  rw [froz_at nm] at q
  have q2 := ok.t.kp a o q nm
  rw [froz_at]
  · exact q2
  · intro m
    rcases ok.t.mm a m with z | z
    · exact nm z
    · rw [z] at q
      cases q
theorem Ok.entF (ok : Ok K R B g es F σ H) {i : Nat} {e : Ent} {t : T} (h : es[i]? = some e) (hv : e.val = some t) : ∃ v, σ[i]? = some (some v) ∧ Rep K (R.froz g H) v t := by
  obtain ⟨s, h1, h2⟩ := ok.ent i e h
  have own : ∀ {b : Addr} {o : HO}, H b = some o → ¬ R.P g b → R.froz g H b = some o := fun {b o} q n => by
    rw [froz_at fun m => n (R.mp m)]
    exact q
  cases e with
  | any => cases hv
  | dat u =>
    cases hv
    obtain ⟨v, rfl, r⟩ := h2
    exact ⟨v, h1, r.up ok.i.exf⟩
  | bor u =>
    cases hv
    obtain ⟨v, rfl, r⟩ := h2
    exact ⟨v, h1, r.up ok.bfroz⟩
  | lst ts =>
    cases hv
    obtain ⟨a, vs, rfl, hH, hF, hP, hB, r⟩ := h2
    exact ⟨_, h1, .lst (Evl.sq_of (own hH hP)) (r.up ok.i.exf)⟩
  | dk ts =>
    cases hv
    obtain ⟨a, vs, rfl, hH, hF, hP, hB, r⟩ := h2
    exact ⟨_, h1, .dct (own hH hP) (r.up ok.i.exf)⟩
theorem Ok.thawed (ok : Ok K R B g es F σ H) : Ok K R ⟨g, R.froz g H, H⟩ g (es.map Ent.thaw) (R.froz g H) σ H := by
  refine ⟨ok.i.all, .refl, by simp [ok.len], fun i e h => ?_, fun i j e e' a n h1 h2 h3 h4 h5 h6 => ?_⟩
  · obtain ⟨e0, q1, rfl⟩ := thaw_get h
    cases e0 with
    | any =>
      obtain ⟨s, z, _⟩ := ok.ent i _ q1
      exact ⟨s, z, trivial⟩
    | dat t =>
      obtain ⟨v, z1, z2⟩ := ok.entF q1 rfl
      exact ⟨_, z1, v, rfl, z2⟩
    | bor t =>
      obtain ⟨v, z1, z2⟩ := ok.entF q1 rfl
      exact ⟨_, z1, v, rfl, z2⟩
    | lst ts =>
      obtain ⟨v, z1, z2⟩ := ok.entF q1 rfl
      exact ⟨_, z1, v, rfl, z2⟩
    | dk ts =>
      obtain ⟨v, z1, z2⟩ := ok.entF q1 rfl
      exact ⟨_, z1, v, rfl, z2⟩
  · obtain ⟨e0, q1, rfl⟩ := thaw_get h1
    cases e0 <;> cases h3
/-- behind a reading of the thawed slots -/
theorem Ok.refrozen {g' : R.G} {F2 H2 : Hp} {B1 : Bs R} (ok : Ok K R B g es F σ H) (e1 : B1 = ⟨g, R.froz g H, H⟩) (ok2 : Ok K R B1 g' (es.map Ent.thaw) F2 σ H2) :
    Tr R g F H g' F H2 ∧ R.I g' F H2 := by
  subst e1
  have t := ok2.t
  exact ⟨⟨Evl.Ex.refl _, fun _ h => .inl h, t.kp, t.al, t.pp, t.mm⟩, ok2.i.low (ok.i.exf.trans t.f)⟩
theorem we_bor (h : ∀ B1, wE K R B1 te g (es.map Ent.thaw) fun t g' es' => t.sc = true ∧ es' = es.map Ent.thaw ∧ post t g' es) : wE K R B te g es post := fun F σ H ok Q q => by
  refine h ⟨g, R.froz g H, H⟩ _ σ H ok.thawed Q fun v t g' es' F' H' l o r p => ?_
  obtain ⟨p1, rfl, p3⟩ := p
  obtain ⟨tr, i⟩ := ok.refrozen rfl o
  exact q v t g' es F H' (.of tr) (ok.step tr i) (r.sc p1) p3
theorem wt_bor (h : ∀ B1, wT K R B1 tt g (es.map Ent.thaw) fun t g' es' => es' = es.map Ent.thaw ∧ pb t g' es) : wT K R B tt g es pb := fun F σ H ok Q q => by
  refine h ⟨g, R.froz g H, H⟩ _ σ H ok.thawed Q fun b g' es' F' H' l o p => ?_
  obtain ⟨rfl, p3⟩ := p
  obtain ⟨tr, i⟩ := ok.refrozen rfl o
  exact q b g' es F H' (.of tr) (ok.step tr i) p3

/-! ### operations -/
theorem we_op {r : R2} (h : wE K R B ta g es fun x g1 es1 => wE K R B tb g1 es1 fun y g2 es2 => wR K R r x y fun z => post z g2 es2) : wE K R B (tOp r ta tb) g es post := fun F σ H ok Q q => by
  refine h F σ H ok _ fun vx x g1 es1 F1 H1 l1 ok1 rx h1 => ?_
  refine h1 F1 σ H1 ok1 _ fun vy y g2 es2 F2 H2 l2 ok2 ry h2 => ?_
  refine h2 g2 F2 H2 vx vy ok2.i (rx.up l2.f) ry Q fun v t F3 H3 tr i r p => ?_
  exact q v t g2 es2 F3 H3 ((l1.trans l2).trans (.of tr)) (ok2.step tr i) r p
theorem we_un {r : V → Hp → VK → Prop} (h : wE K R B ta g es fun x g1 es1 => wU K R r x fun z => post z g1 es1) : wE K R B (tUn r ta) g es post := fun F σ H ok Q q => by
  refine h F σ H ok _ fun vx x g1 es1 F1 H1 l1 ok1 rx h1 => ?_
  refine h1 g1 F1 H1 vx ok1.i rx Q fun v t F3 H3 tr i r p => ?_
  exact q v t g1 es1 F3 H3 (l1.trans (.of tr)) (ok1.step tr i) r p
theorem we_cb {r : List V → Hp → VK → Prop} {t : TA} (h : wA K R B t g es fun x g1 es1 => wC K R r x fun z => post z g1 es1) : wE K R B (tCB r t) g es post := fun F σ H ok Q q => by
  refine h F σ H ok _ fun vx x g1 es1 F1 H1 l1 ok1 rx h1 => ?_
  refine h1 g1 F1 H1 vx ok1.i rx Q fun v t F3 H3 tr i r p => ?_
  exact q v t g1 es1 F3 H3 (l1.trans (.of tr)) (ok1.step tr i) r p
theorem wa_nil (h : pl [] g es) : wA K R B tNil g es pl := fun F σ H ok Q q => q _ _ _ _ _ _ .refl ok .nil h
theorem wa_cons {tr : TA} (h : wE K R B te g es fun x g1 es1 => wA K R B tr g1 es1 fun xs g2 es2 => pl (x :: xs) g2 es2) : wA K R B (tCons te tr) g es pl := fun F σ H ok Q q => by
  refine h F σ H ok _ fun vx x g1 es1 F1 H1 l1 ok1 rx h1 => ?_
  refine h1 F1 σ H1 ok1 _ fun vy y g2 es2 F2 H2 l2 ok2 ry h2 => ?_
  exact q _ _ g2 es2 F2 H2 (l1.trans l2) ok2 (.cons (rx.up l2.f) ry) h2
theorem we_tup {t : TA} (h : wA K R B t g es fun ts g' es' => ts.length ≤ sizeLine ∧ post (.tup ts) g' es') : wE K R B (tTup t) g es post := fun F σ H ok Q q => by
  refine h F σ H ok _ fun vs ts g1 es1 F1 H1 l1 ok1 rs h1 => ?_
  refine ⟨by rw [rs.length]; exact h1.1, fun p hp => ?_⟩
  obtain ⟨tr, i⟩ := Tr.new (o := .tup vs) ok1.i hp
  exact q _ (.tup ts) g1 es1 _ _ (l1.trans (.of tr)) (ok1.step tr i) (.tup (Evl.st_of upd_same) (rs.up tr.f)) h1.2
theorem we_lst {t : TA} (h : wA K R B t g es fun ts g' es' => ts.length ≤ sizeLine ∧ post (.lst ts) g' es') : wE K R B (tLst t) g es post := fun F σ H ok Q q => by
  refine h F σ H ok _ fun vs ts g1 es1 F1 H1 l1 ok1 rs h1 => ?_
  refine ⟨by rw [rs.length]; exact h1.1, fun p hp => ?_⟩
  obtain ⟨tr, i⟩ := Tr.new (o := .lst vs) ok1.i hp
  exact q _ (.lst ts) g1 es1 _ _ (l1.trans (.of tr)) (ok1.step tr i) (.lst (Evl.sq_of upd_same) (rs.up tr.f)) h1.2
theorem we_if (h : wT K R B tt g es fun b g1 es1 => if b = true then wE K R B ta g1 es1 post else wE K R B tb g1 es1 post) : wE K R B (tIf tt ta tb) g es post := fun F σ H ok Q q => by
  refine h F σ H ok _ fun b g1 es1 F1 H1 l1 ok1 h1 => ?_
  cases b with
  | true => exact h1 F1 σ H1 ok1 Q fun v t g2 es2 F2 H2 l2 => q v t g2 es2 F2 H2 (l1.trans l2)
  | false => exact h1 F1 σ H1 ok1 Q fun v t g2 es2 F2 H2 l2 => q v t g2 es2 F2 H2 (l1.trans l2)
theorem we_andV (h : wE K R B ta g es fun x g1 es1 => ∃ c, x = .bl c ∧ if c = true then wE K R B tb g1 es1 post else post (.bl false) g1 es1) : wE K R B (tAndV ta tb) g es post := fun F σ H ok Q q => by
  refine h F σ H ok _ fun vx x g1 es1 F1 H1 l1 ok1 rx h1 => ?_
  obtain ⟨c, rfl, h1⟩ := h1
  cases rx
  refine ⟨c, rfl, ?_⟩
  cases c with
  | true => exact h1 F1 σ H1 ok1 Q fun v t g2 es2 F2 H2 l2 => q v t g2 es2 F2 H2 (l1.trans l2)
  | false => exact q _ _ g1 es1 F1 H1 l1 ok1 (.bl false) h1
theorem we_orV (h : wE K R B ta g es fun x g1 es1 => ∃ c, x = .bl c ∧ if c = true then post (.bl true) g1 es1 else wE K R B tb g1 es1 post) : wE K R B (tOrV ta tb) g es post := fun F σ H ok Q q => by
  refine h F σ H ok _ fun vx x g1 es1 F1 H1 l1 ok1 rx h1 => ?_
  obtain ⟨c, rfl, h1⟩ := h1
  cases rx
  refine ⟨c, rfl, ?_⟩
  cases c with
  | true => exact q _ _ g1 es1 F1 H1 l1 ok1 (.bl true) h1
  | false => exact h1 F1 σ H1 ok1 Q fun v t g2 es2 F2 H2 l2 => q v t g2 es2 F2 H2 (l1.trans l2)
theorem we_notV (h : wE K R B ta g es fun x g1 es1 => ∃ c, x = .bl c ∧ post (.bl (!c)) g1 es1) : wE K R B (tNotV ta) g es post := fun F σ H ok Q q => by
  refine h F σ H ok _ fun vx x g1 es1 F1 H1 l1 ok1 rx h1 => ?_
  obtain ⟨c, rfl, h1⟩ := h1
  cases rx
  exact ⟨c, rfl, q _ _ g1 es1 F1 H1 l1 ok1 (.bl _) h1⟩

/-! ### tests -/
theorem wt_test (h : wE K R B te g es fun x g1 es1 => ∃ c, x = .bl c ∧ pb c g1 es1) : wT K R B (tTest te) g es pb := fun F σ H ok Q q => by
  refine h F σ H ok _ fun vx x g1 es1 F1 H1 l1 ok1 rx h1 => ?_
  obtain ⟨c, rfl, h1⟩ := h1
  cases rx
  exact ⟨c, rfl, q c g1 es1 F1 H1 l1 ok1 h1⟩
theorem wt_B (h : wE K R B te g es fun x g1 es1 => ∃ c, x = .bl c ∧ pb c g1 es1) : wT K R B (tB te) g es pb := wt_test h
theorem wt_yes (h : pb true g es) : wT K R B tYes g es pb := fun F σ H ok Q q => q _ _ _ _ _ .refl ok h
theorem wt_and (h : wT K R B tt g es fun b g1 es1 => if b = true then wT K R B tu g1 es1 pb else pb false g1 es1) : wT K R B (tAnd tt tu) g es pb := fun F σ H ok Q q => by
  refine h F σ H ok _ fun b g1 es1 F1 H1 l1 ok1 h1 => ?_
  cases b with
  | true => exact h1 F1 σ H1 ok1 Q fun b g2 es2 F2 H2 l2 => q b g2 es2 F2 H2 (l1.trans l2)
  | false => exact q _ g1 es1 F1 H1 l1 ok1 h1
theorem wt_or (h : wT K R B tt g es fun b g1 es1 => if b = true then pb true g1 es1 else wT K R B tu g1 es1 pb) : wT K R B (tOr tt tu) g es pb := fun F σ H ok Q q => by
  refine h F σ H ok _ fun b g1 es1 F1 H1 l1 ok1 h1 => ?_
  cases b with
  | true => exact q _ g1 es1 F1 H1 l1 ok1 h1
  | false => exact h1 F1 σ H1 ok1 Q fun b g2 es2 F2 H2 l2 => q b g2 es2 F2 H2 (l1.trans l2)
theorem wt_not (h : wT K R B tt g es fun b g1 es1 => pb (!b) g1 es1) : wT K R B (tNot tt) g es pb := fun F σ H ok Q q => by
  refine h F σ H ok _ fun b g1 es1 F1 H1 l1 ok1 h1 => ?_
  exact q _ g1 es1 F1 H1 l1 ok1 h1
/-- truth of a datum -/
def T.tru : T → Option Bool
  | .non => some false | .bl b => some b | .int i => some (i != 0) | .str x => if x.length ≤ sizeLine then some ((x.length : Int) != 0) else none
  | .lst xs => some (!xs.isEmpty) | .tup xs => some (!xs.isEmpty) | .dct kvs => some (!kvs.isEmpty) | .raw _ => none
theorem Reps.empty : ∀ {vs : List V} {ts : List T}, Reps K F vs ts → vs.isEmpty = ts.isEmpty
  | _, _, .nil => rfl
  | _, _, .cons _ _ => rfl
theorem RepK.empty : ∀ {vs : List (Key × V)} {ts : List (Key × T)}, RepK K F vs ts → vs.isEmpty = ts.isEmpty
  | _, _, .nil => rfl
  | _, _, .cons _ _ => rfl
theorem Rep.tru {v : V} {t : T} {b : Bool} (r : Rep K F v t) (e : Ex F H) (h : t.tru = some b) : TruV K v H b := by
  cases r with
  | non => exact (Option.some.inj h).symm
  | bl _ => exact (Option.some.inj h).symm
  | int _ => exact (Option.some.inj h).symm
  | str x =>
    have h' : (if x.length ≤ sizeLine then some ((x.length : Int) != 0) else none) = some b := h
    by_cases hl : x.length ≤ sizeLine
    · rw [if_pos hl] at h'
      exact ⟨hl, (Option.some.inj h').symm⟩
    · rw [if_neg hl] at h'
      cases h'
  | lst h1 h2 => exact .inl ⟨_, Evl.ex_l e h1, by rw [h2.empty]; exact (Option.some.inj h).symm⟩
  | tup h1 h2 => exact .inr (.inl ⟨_, Evl.ex_t e h1, by rw [h2.empty]; exact (Option.some.inj h).symm⟩)
  | dct h1 h2 => exact .inr (.inr ⟨_, e _ _ h1, by rw [h2.empty]; exact (Option.some.inj h).symm⟩)
  | raw _ => cases h
theorem wt_tru (h : wE K R B te g es fun x g1 es1 => ∃ c, x.tru = some c ∧ pb c g1 es1) : wT K R B (fun σ H Q => te σ H fun x H' => ∃ k, TruV K x H' k ∧ Q k H') g es pb := fun F σ H ok Q q => by
  refine h F σ H ok _ fun vx x g1 es1 F1 H1 l1 ok1 rx h1 => ?_
  obtain ⟨c, e, h1⟩ := h1
  exact ⟨c, rx.tru ok1.i.ex e, q c g1 es1 F1 H1 l1 ok1 h1⟩

/-! ### calls of defs -/
end
inductive ArgsOk (K : PySem.W.Frag) (R : Rs) (g : R.G) (F H : Hp) : List Bool → List V → List T → Prop
  | nil : ArgsOk K R g F H [] [] []
  | dat {v : V} {t : T} {ms : List Bool} {vs : List V} {ts : List T} : Rep K F v t → ArgsOk K R g F H ms vs ts → ArgsOk K R g F H (false :: ms) (v :: vs) (t :: ts)
  | bor {v : V} {t : T} {ms : List Bool} {vs : List V} {ts : List T} : Rep K (R.froz g H) v t → ArgsOk K R g F H ms vs ts → ArgsOk K R g F H (true :: ms) (v :: vs) (t :: ts)
def wAm (K : PySem.W.Frag) (R : Rs) (B : Bs R) (ms : List Bool) (ta : TA) (g : R.G) (es : List Ent) (post : List T → R.G → List Ent → Prop) : Prop :=
  ∀ F σ H, Ok K R B g es F σ H → ∀ Q : List V → Hp → Prop, (∀ v t g' es' F' H', Lc R σ g es F H g' es' F' H' → Ok K R B g' es' F' σ H' → ArgsOk K R g' F' H' ms v t → post t g' es' → Q v H') → ta σ H Q
abbrev DSp (R : Rs) := List T → R.G → (T → R.G → Prop) → Prop
/-- a def's promise by data: ms tells which arguments are but read -/
def spD (K : PySem.W.Frag) (R : Rs) (ms : List Bool) (pre : DSp R) : Sp := fun vs H Q _ => ∃ F ts g post, R.I g F H ∧ ArgsOk K R g F H ms vs ts ∧ pre ts g post ∧
  ∀ v t g' F' H', Tr R g F H g' F' H' → R.I g' F' H' → Rep K F' v t → post t g' → Q v H'
section
variable {K : PySem.W.Frag} {R : Rs} {B : Bs R} {g g' : R.G} {es es' : List Ent} {F F' H H' : Hp} {σ : L2.St} {ta tb te : TE} {tt tu : TT} {post : T → R.G → List Ent → Prop} {pb : Bool → R.G → List Ent → Prop} {pl : List T → R.G → List Ent → Prop} {P : Po R} {ms : List Bool}
theorem wm_nil (h : pl [] g es) : wAm K R B [] tNil g es pl := fun F σ H ok Q q => q _ _ _ _ _ _ .refl ok .nil h
theorem wm_dat {tr : TA} (h : wE K R B te g es fun x g1 es1 => wAm K R B ms tr g1 es1 fun xs g2 es2 => pl (x :: xs) g2 es2) : wAm K R B (false :: ms) (tCons te tr) g es pl := fun F σ H ok Q q => by
  refine h F σ H ok _ fun vx x g1 es1 F1 H1 l1 ok1 rx h1 => ?_
  refine h1 F1 σ H1 ok1 _ fun vy y g2 es2 F2 H2 l2 ok2 ry h2 => ?_
  exact q _ _ g2 es2 F2 H2 (l1.trans l2) ok2 (.dat (rx.up l2.f) ry) h2
/-- a datum where reading would do -/
theorem wm_dtb {tr : TA} (h : wE K R B te g es fun x g1 es1 => wAm K R B ms tr g1 es1 fun xs g2 es2 => pl (x :: xs) g2 es2) : wAm K R B (true :: ms) (tCons te tr) g es pl := fun F σ H ok Q q => by
  refine h F σ H ok _ fun vx x g1 es1 F1 H1 l1 ok1 rx h1 => ?_
  refine h1 F1 σ H1 ok1 _ fun vy y g2 es2 F2 H2 l2 ok2 ry h2 => ?_
  exact q _ _ g2 es2 F2 H2 (l1.trans l2) ok2 (.bor ((rx.up l2.f).up ok2.i.exf) ry) h2
theorem wm_bor {i : Nat} {tr : TA} {e : Ent} {t : T} (he : es[i]? = some e) (hv : e.val = some t) (h : wAm K R B ms tr g es fun xs g2 es2 => ∃ e2 x, es2[i]? = some e2 ∧ e2.val = some x ∧ pl (x :: xs) g2 es2) : wAm K R B (true :: ms) (tCons (tVar i) tr) g es pl := fun F σ H ok Q q => by
  obtain ⟨v, h1, _⟩ := ok.entF he hv
  refine ⟨v, h1, ?_⟩
  refine h F σ H ok _ fun vs ts g2 es2 F2 H2 l2 ok2 rs h2 => ?_
  obtain ⟨e2, x, q1, q2, h3⟩ := h2
  obtain ⟨v', z1, z2⟩ := ok2.entF q1 q2
  rw [h1] at z1
  cases z1
  exact q _ _ g2 es2 F2 H2 l2 ok2 (.bor z2 rs) h3
theorem we_call {pre : DSp R} {E : XK} {t : TA} (h : wAm K R B ms t g es fun ts g1 es1 => pre ts g1 fun z g2 => post z g2 es1) : wE K R B (tCall (spD K R ms pre) [] E t) g es post := fun F σ H ok Q q => by
  refine h F σ H ok _ fun vs ts g1 es1 F1 H1 l1 ok1 rs h1 => ?_
  rw [List.append_nil]
  exact ⟨F1, ts, g1, _, ok1.i, rs, h1, fun v t g2 F2 H2 tr i r p => q v t g2 es1 F2 H2 (l1.trans (.of tr)) (ok1.step tr i) r p⟩

/-! ### statements -/
theorem ws_seq {t u : TS} (h : wS K R B t g es { P with nx := fun g1 es1 => wS K R B u g1 es1 P }) : wS K R B (tSeq t u) g es P := fun F σ H ok D d => by
  refine h F σ H ok _ ⟨fun g1 es1 F1 σ1 H1 e1 ok1 h1 => h1 F1 σ1 H1 ok1 D (d.up e1), d.rt, d.bk, d.ct⟩
theorem ws_next (h : P.nx g es) : wS K R B tNext g es P := fun F σ H ok D d => d.nx _ _ _ _ _ (Evl.Ex.refl _) ok h
theorem ws_break (h : P.bk g es) : wS K R B tBreak g es P := fun F σ H ok D d => d.bk _ _ _ _ _ (Evl.Ex.refl _) ok h
theorem ws_cont (h : P.ct g es) : wS K R B tCont g es P := fun F σ H ok D d => d.ct _ _ _ _ _ (Evl.Ex.refl _) ok h
theorem ws_if {t u : TS} (h : wT K R B tt g es fun b g1 es1 => if b = true then wS K R B t g1 es1 P else wS K R B u g1 es1 P) : wS K R B (tIfS tt t u) g es P := fun F σ H ok D d => by
  refine h F σ H ok _ fun b g1 es1 F1 H1 l1 ok1 h1 => ?_
  cases b with
  | true => exact h1 F1 σ H1 ok1 D (d.up l1.f)
  | false => exact h1 F1 σ H1 ok1 D (d.up l1.f)
theorem ws_ret (h : wE K R B te g es fun t g' _ => P.rt t g') : wS K R B (tRet te) g es P := fun F σ H ok D d => by
  refine h F σ H ok _ fun v t g1 es1 F1 H1 l1 ok1 r h1 => ?_
  exact d.rt v t g1 F1 H1 l1.f ok1.i ok1.t r h1
theorem ws_retN (h : P.rt .non g) : wS K R B tRetN g es P := fun F σ H ok D d => d.rt _ _ _ _ _ (Evl.Ex.refl _) ok.i ok.t .non h
theorem ws_drop (h : wE K R B te g es fun _ g' es' => P.nx g' es') : wS K R B (tDrop te) g es P := fun F σ H ok D d => by
  refine h F σ H ok _ fun v t g1 es1 F1 H1 l1 ok1 r h1 => ?_
  exact d.nx _ _ _ _ _ l1.f ok1 h1
theorem ws_set {i : Nat} (h : wE K R B te g es fun t g' es' => P.nx g' (es'.set i (.dat t))) : wS K R B (tAsg te (gName i)) g es P := fun F σ H ok D d => by
  refine h F σ H ok _ fun v t g1 es1 F1 H1 l1 ok1 r h1 => ?_
  exact d.nx _ _ _ _ _ l1.f (ok1.set r) h1
theorem ws_setT {i j : Nat} (h : wE K R B te g es fun t g' es' => ∃ x y, t = .tup [x, y] ∧ P.nx g' ((es'.set i (.dat x)).set j (.dat y))) : wS K R B (tAsg te (gTup K 2 (gCons (gName i) (gCons (gName j) gNil)))) g es P := fun F σ H ok D d => by
  refine h F σ H ok _ fun v t g1 es1 F1 H1 l1 ok1 r h1 => ?_
  obtain ⟨x, y, rfl, h1⟩ := h1
  cases r with
  | tup h2 h3 =>
    cases h3 with
    | cons r1 h3 => cases h3 with
      | cons r2 h3 => cases h3 with
        | nil => exact ⟨_, _, rfl, Evl.ex_t ok1.i.ex h2, rfl, _, _, rfl, _, _, rfl, rfl, d.nx _ _ _ _ _ l1.f ((ok1.set r1).set r2) h1⟩
/-- x = [..], to be changed -/
theorem ws_setL {i : Nat} {t : TA} (h : wA K R B t g es fun ts g' es' => ts.length ≤ sizeLine ∧ P.nx g' (es'.set i (.lst ts))) : wS K R B (tAsg (tLst t) (gName i)) g es P := fun F σ H ok D d => by
  refine h F σ H ok _ fun vs ts g1 es1 F1 H1 l1 ok1 rs h1 => ?_
  refine ⟨by rw [rs.length]; exact h1.1, fun p hp => ?_⟩
  obtain ⟨tr, ii⟩ := Tr.lay (o := .lst vs) ok1.i hp
  have ok2 := ok1.step tr ii
  have fp : F1 p = none := Evl.fresh_back ok1.i.ex hp
  refine d.nx _ _ _ _ _ l1.f (ok2.setOwn (i := i) (a := p) (e := .lst ts) ⟨p, vs, rfl, upd_same, fp, fun z => R.pn ok1.i.res z hp, none_of ok1.t.al hp, rs⟩ fun z => (ok1.ownH z).1 hp) h1.2
theorem ws_setD {i : Nat} (h : P.nx g (es.set i (.dk []))) : wS K R B (tAsg tDNewK (gName i)) g es P := fun F σ H ok D d => fun p hp => by
  obtain ⟨tr, ii⟩ := Tr.lay (o := .dK []) ok.i hp
  have ok2 := ok.step tr ii
  have fp : F p = none := Evl.fresh_back ok.i.ex hp
  exact d.nx _ _ _ _ _ (Evl.Ex.refl _) (ok2.setOwn (i := i) (a := p) (e := .dk []) ⟨p, [], rfl, upd_same, fp, fun z => R.pn ok.i.res z hp, none_of ok.t.al hp, .nil⟩ fun z => (ok.ownH z).1 hp) h
/-- x.append(e), x an own list -/
theorem we_append {i : Nat} {ts0 : List T} (e0 : es[i]? = some (.lst ts0)) (h : wE K R B te g es fun t g' es' => ∃ ts, es'[i]? = some (.lst ts) ∧ ts.length < sizeLine ∧ post .non g' (es'.set i (.lst (ts ++ [t])))) :
    wE K R B (tBM K "list" rAppend (tVar i) (tCons te tNil)) g es post := fun F σ H ok Q q => by
  obtain ⟨s, h1, a, vs0, rfl, hH0, _⟩ := ok.ent i _ e0
  refine ⟨_, h1, .inl ⟨rfl, _, Evl.sq_of hH0⟩, ?_⟩
  refine h F σ H ok _ fun v t g1 es1 F1 H1 l1 ok1 r h2 => ?_
  obtain ⟨ts, e1, hl, hp⟩ := h2
  obtain ⟨s, h3, a', vs, rfl, hH, hF, hP, hB, rs⟩ := ok1.ent i _ e1
  rw [h1] at h3
  cases h3
  have ow : OwnA es1 σ a := ⟨i, _, e1, rfl, h1⟩
  refine ⟨a, vs, v, rfl, rfl, hH, by rw [rs.length]; exact hl, ?_⟩
  have ok2 := ok1.chg (o := .lst (vs ++ [v])) (e := .lst (ts ++ [t])) ow h1 ⟨_, e1, rfl⟩ ⟨a, _, rfl, upd_same, hF, hP, hB, rs.append (.cons r .nil)⟩
  refine q _ .non g1 _ F1 _ (l1.trans ⟨Evl.Ex.refl _, fun _ h => .inl h, fun b o z _ n => ?_, fun b z => ?_, fun _ h => .inl h, fun _ h => .inl h, fun b z => z.setO ⟨_, e1, rfl⟩⟩) ok2 .non hp
  · rw [upd_ne (fun e => n (by rw [e]; exact ow))]
    exact z
  · by_cases e : b = a
    · subst e
      rw [upd_same]
      intro z
      cases z
    · rw [upd_ne e]
      exact z
/-- x.pop(), x an own list -/
theorem we_pop {i : Nat} {ts : List T} {t : T} (e0 : es[i]? = some (.lst (ts ++ [t]))) (h : post t g (es.set i (.lst ts))) : wE K R B (tBM0 K "list" rPop (tVar i)) g es post := fun F σ H ok Q q => by
  obtain ⟨s, h1, a, vs, rfl, hH, hF, hP, hB, rs⟩ := ok.ent i _ e0
  have ow : OwnA es σ a := ⟨i, _, e0, rfl, h1⟩
  refine ⟨_, h1, .inl ⟨rfl, _, Evl.sq_of hH⟩, ?_⟩
  have el : vs.length = ts.length + 1 := by rw [rs.length]; simp
  obtain ⟨v, hv, r⟩ := rs.get (i := ts.length) (t := t) (by simp)
  have rs' : Reps K F vs.dropLast ts := by
    have := rs.dropLast
    rwa [List.dropLast_concat] at this
  refine ⟨a, vs, v, rfl, rfl, hH, by rw [el]; exact hv, ?_⟩
  have ok2 := ok.chg (o := .lst vs.dropLast) (e := .lst ts) ow h1 ⟨_, e0, rfl⟩ ⟨a, _, rfl, upd_same, hF, hP, hB, rs'⟩
  refine q _ t g _ F _ ⟨Evl.Ex.refl _, fun _ h => .inl h, fun b o z _ n => ?_, fun b z => ?_, fun _ h => .inl h, fun _ h => .inl h, fun b z => z.setO ⟨_, e0, rfl⟩⟩ ok2 r h
  · rw [upd_ne (fun e => n (by rw [e]; exact ow))]
    exact z
  · by_cases e : b = a
    · subst e
      rw [upd_same]
      intro z
      cases z
    · rw [upd_ne e]
      exact z
end
end Zc
/-! Z4: what is walked, targets, loops, comprehensions. -/
namespace Zc
open PySem L2

structure Src (K : PySem.W.Frag) (R : Rs) (J : It) (F1 : Hp) (xs : List T) : Prop where
  stop : ∀ g F H, R.I g F H → Ex F1 F → ∀ i, xs.length ≤ i → J.stop i H
  go : ∀ g F H, R.I g F H → Ex F1 F → ∀ i, i < xs.length → J.go i H
  yld : ∀ g F H, R.I g F H → Ex F1 F → ∀ i v H', i < xs.length → J.yld i H v H' → ∃ t F', xs[i]? = some t ∧ Tr R g F H g F' H' ∧ R.I g F' H' ∧ Rep K F' v t
def wI (K : PySem.W.Frag) (R : Rs) (B : Bs R) (wi : TI) (g : R.G) (es : List Ent) (post : List T → R.G → List Ent → Prop) : Prop :=
  ∀ F σ H, Ok K R B g es F σ H → ∀ Q : It → Hp → Prop, (∀ J xs g' es' F' H', Lc R σ g es F H g' es' F' H' → Ok K R B g' es' F' σ H' → Src K R J F' xs → post xs g' es' → Q J H') → wi σ H Q
section
variable {K : PySem.W.Frag} {R : Rs} {B : Bs R} {g g' : R.G} {es es' : List Ent} {F F' H H' : Hp} {σ : L2.St} {ta tb te : TE} {tt tu : TT} {post : T → R.G → List Ent → Prop} {pi : List T → R.G → List Ent → Prop} {P : Po R}
theorem src_list {a : Addr} {vs : List V} {ts : List T} {F1 : Hp} (h : SqL K F1 a vs) (hr : Reps K F1 vs ts) : Src K R (Itl K a) F1 ts := by
  have hl := hr.length
  refine ⟨fun g F H i e n hn => ⟨vs, Evl.ex_l (e.trans i.ex) h, by omega⟩, fun g F H i e n hn => ⟨vs, vs[n]'(by omega), Evl.ex_l (e.trans i.ex) h, by simp⟩, fun g F H i e n v H' hn y => ?_⟩
  obtain ⟨rfl, y⟩ := y
  obtain ⟨t, h1, h2⟩ := hr.get' (y vs (Evl.ex_l (e.trans i.ex) h))
  exact ⟨t, F, h1, .refl, i, h2.up e⟩
theorem src_tup {a : Addr} {vs : List V} {ts : List T} {F1 : Hp} (h : SqT K F1 a vs) (hr : Reps K F1 vs ts) : Src K R (Itt K a) F1 ts := by
  have hl := hr.length
  refine ⟨fun g F H i e n hn => ⟨vs, Evl.ex_t (e.trans i.ex) h, by omega⟩, fun g F H i e n hn => ⟨vs, vs[n]'(by omega), Evl.ex_t (e.trans i.ex) h, by simp⟩, fun g F H i e n v H' hn y => ?_⟩
  obtain ⟨rfl, y⟩ := y
  obtain ⟨t, h1, h2⟩ := hr.get' (y vs (Evl.ex_t (e.trans i.ex) h))
  exact ⟨t, F, h1, .refl, i, h2.up e⟩
def rangeT (lo : Int) (n : Nat) : List T := (List.range n).map fun i : Nat => .int (lo + (i : Int))
theorem rangeT_len (lo : Int) (n : Nat) : (rangeT lo n).length = n := by simp [rangeT]
theorem rangeT_get {lo : Int} {n i : Nat} (h : i < n) : (rangeT lo n)[i]? = some (.int (lo + i)) := by simp [rangeT, h]
theorem src_rng {lo : Int} {n : Nat} {F1 : Hp} : Src K R (Itr lo n) F1 (rangeT lo n) := by
  refine ⟨fun g F H i e k hk => by rw [rangeT_len] at hk; exact hk, fun g F H i e k hk => by rw [rangeT_len] at hk; exact hk, fun g F H i e k v H' hk y => ?_⟩
  rw [rangeT_len] at hk
  obtain ⟨rfl, rfl⟩ := y
  exact ⟨_, F, rangeT_get hk, .refl, i, .int _⟩
/-- (0, x), (1, y), .. -/
def enumT (ts : List T) : List T := ts.zipIdx.map fun p => .tup [.int (p.2 : Nat), p.1]
theorem enumT_len (ts : List T) : (enumT ts).length = ts.length := by simp [enumT]
theorem enumT_get {ts : List T} {i : Nat} {t : T} (h : ts[i]? = some t) : (enumT ts)[i]? = some (.tup [.int (i : Nat), t]) := by simp [enumT, h]
theorem src_enum {a : Addr} {vs : List V} {ts : List T} {F1 : Hp} (h : SqL K F1 a vs) (hr : Reps K F1 vs ts) : Src K R (Ite K a) F1 (enumT ts) := by
  have hl := hr.length
  refine ⟨fun g F H i e n hn => ⟨vs, Evl.ex_l (e.trans i.ex) h, by rw [enumT_len] at hn; omega⟩, fun g F H i e n hn => ⟨vs, vs[n]'(by rw [enumT_len] at hn; omega), Evl.ex_l (e.trans i.ex) h, by simp⟩, fun g F H i e n v H' hn y => ?_⟩
  obtain ⟨T, x, rfl, hT, rfl, y⟩ := y
  obtain ⟨t, h1, h2⟩ := hr.get' (y vs (Evl.ex_l (e.trans i.ex) h))
  obtain ⟨tr, ii⟩ := Tr.new (o := .tup [.int (n : Nat), x]) i hT
  exact ⟨_, _, enumT_get h1, tr, ii, .tup (Evl.st_of upd_same) (.cons (.int _) (.cons ((h2.up e).up tr.f) .nil))⟩
def zipT (ts us : List T) : List T := (ts.zip us).map fun p => .tup [p.1, p.2]
theorem zipT_len (ts us : List T) : (zipT ts us).length = min ts.length us.length := by simp [zipT]
theorem zipT_get {ts us : List T} {i : Nat} {t u : T} (h : ts[i]? = some t) (h' : us[i]? = some u) : (zipT ts us)[i]? = some (.tup [t, u]) := by simp [zipT, List.getElem?_zip_eq_some.mpr (⟨h, h'⟩ : ts[i]? = some (t, u).1 ∧ us[i]? = some (t, u).2)]
theorem src_zip {a b : Addr} {vs ws : List V} {ts us : List T} {F1 : Hp} (h : SqL K F1 a vs) (hr : Reps K F1 vs ts) (h' : SqL K F1 b ws) (hr' : Reps K F1 ws us) : Src K R (Itz K a b) F1 (zipT ts us) := by
  have hl := hr.length
  have hl' := hr'.length
  refine ⟨fun g F H i e n hn => ⟨vs, ws, Evl.ex_l (e.trans i.ex) h, Evl.ex_l (e.trans i.ex) h', by rw [zipT_len] at hn; omega⟩, fun g F H i e n hn => ⟨vs, ws, vs[n]'(by rw [zipT_len] at hn; omega), ws[n]'(by rw [zipT_len] at hn; omega), Evl.ex_l (e.trans i.ex) h, Evl.ex_l (e.trans i.ex) h', by simp, by simp⟩, fun g F H i e n v H' hn y => ?_⟩
  obtain ⟨T, x, y', rfl, hT, rfl, y1, y2⟩ := y
  obtain ⟨t, h1, h2⟩ := hr.get' (y1 vs (Evl.ex_l (e.trans i.ex) h))
  obtain ⟨u, h3, h4⟩ := hr'.get' (y2 ws (Evl.ex_l (e.trans i.ex) h'))
  obtain ⟨tr, ii⟩ := Tr.new (o := .tup [x, y']) i hT
  exact ⟨_, _, zipT_get h1 h3, tr, ii, .tup (Evl.st_of upd_same) (.cons ((h2.up e).up tr.f) (.cons ((h4.up e).up tr.f) .nil))⟩
theorem wi_list (h : wE K R B te g es fun t g' es' => ∃ xs, t = .lst xs ∧ pi xs g' es') : wI K R B (iList K te) g es pi := fun F σ H ok Q q => by
  refine h F σ H ok _ fun v t g1 es1 F1 H1 l1 ok1 r h1 => ?_
  obtain ⟨xs, rfl, h1⟩ := h1
  cases r with
  | lst h2 h3 => exact ⟨_, rfl, ⟨_, Evl.ex_l ok1.i.ex h2⟩, q _ xs g1 es1 F1 H1 l1 ok1 (src_list h2 h3) h1⟩
theorem wi_tup (h : wE K R B te g es fun t g' es' => ∃ xs, t = .tup xs ∧ pi xs g' es') : wI K R B (iTup K te) g es pi := fun F σ H ok Q q => by
  refine h F σ H ok _ fun v t g1 es1 F1 H1 l1 ok1 r h1 => ?_
  obtain ⟨xs, rfl, h1⟩ := h1
  cases r with
  | tup h2 h3 => exact ⟨_, rfl, ⟨_, Evl.ex_t ok1.i.ex h2⟩, q _ xs g1 es1 F1 H1 l1 ok1 (src_tup h2 h3) h1⟩
theorem wi_rng1 {t : TA} (h : wA K R B t g es fun ts g' es' => ∃ j : Int, ts = [.int j] ∧ (-(2 ^ 62) ≤ j ∧ j < 2 ^ 62) ∧ pi (rangeT 0 j.toNat) g' es') : wI K R B (iRng1 t) g es pi := fun F σ H ok Q q => by
  refine h F σ H ok _ fun v t g1 es1 F1 H1 l1 ok1 r h1 => ?_
  obtain ⟨j, rfl, ⟨b1, b2⟩, h1⟩ := h1
  cases r with
  | cons r1 r => cases r with
    | nil =>
      cases r1
      exact ⟨j, rfl, b1, b2, q _ _ g1 es1 F1 H1 l1 ok1 src_rng h1⟩
theorem wi_rng2 {t : TA} (h : wA K R B t g es fun ts g' es' => ∃ i j : Int, ts = [.int i, .int j] ∧ (-(2 ^ 62) ≤ i ∧ i < 2 ^ 62 ∧ -(2 ^ 62) ≤ j ∧ j < 2 ^ 62) ∧ pi (rangeT i (j - i).toNat) g' es') : wI K R B (iRng2 t) g es pi := fun F σ H ok Q q => by
  refine h F σ H ok _ fun v t g1 es1 F1 H1 l1 ok1 r h1 => ?_
  obtain ⟨i, j, rfl, b, h1⟩ := h1
  cases r with
  | cons r1 r => cases r with
    | cons r2 r => cases r with
      | nil =>
        cases r1
        cases r2
        exact ⟨i, j, rfl, b, q _ _ g1 es1 F1 H1 l1 ok1 src_rng h1⟩
theorem wi_enum {t : TA} (h : wA K R B t g es fun ts g' es' => ∃ xs, ts = [.lst xs] ∧ pi (enumT xs) g' es') : wI K R B (iEnum K t) g es pi := fun F σ H ok Q q => by
  refine h F σ H ok _ fun v t g1 es1 F1 H1 l1 ok1 r h1 => ?_
  obtain ⟨xs, rfl, h1⟩ := h1
  cases r with
  | cons r1 r => cases r with
    | nil => cases r1 with
      | lst h2 h3 => exact ⟨_, _, rfl, Evl.ex_l ok1.i.ex h2, q _ _ g1 es1 F1 H1 l1 ok1 (src_enum h2 h3) h1⟩
theorem wi_zip {t : TA} (h : wA K R B t g es fun ts g' es' => ∃ xs ys, ts = [.lst xs, .lst ys] ∧ pi (zipT xs ys) g' es') : wI K R B (iZip K t) g es pi := fun F σ H ok Q q => by
  refine h F σ H ok _ fun v t g1 es1 F1 H1 l1 ok1 r h1 => ?_
  obtain ⟨xs, ys, rfl, h1⟩ := h1
  cases r with
  | cons r1 r => cases r with
    | cons r2 r => cases r with
      | nil => cases r1 with
        | lst h2 h3 => cases r2 with
          | lst h4 h5 => exact ⟨_, _, _, _, rfl, Evl.ex_l ok1.i.ex h2, Evl.ex_l ok1.i.ex h4, q _ _ g1 es1 F1 H1 l1 ok1 (src_zip h2 h3 h4 h5) h1⟩

/-! ### targets -/
def Off (vs : List Nat) (σ σ' : L2.St) : Prop := σ'.length = σ.length ∧ ∀ j, j ∉ vs → σ'[j]? = σ[j]?
theorem Off.refl (vs : List Nat) (σ : L2.St) : Off vs σ σ := ⟨rfl, fun _ _ => rfl⟩
theorem Off.trans {vs : List Nat} {σ1 σ2 σ3 : L2.St} (a : Off vs σ1 σ2) (b : Off vs σ2 σ3) : Off vs σ1 σ3 := ⟨b.1.trans a.1, fun j h => (b.2 j h).trans (a.2 j h)⟩
theorem Off.set {vs : List Nat} {σ : L2.St} {i : Nat} {s : Option V} (h : i ∈ vs) : Off vs σ (σ.set i s) := ⟨by simp, fun j hj => List.getElem?_set_ne (fun e => hj (by rw [← e]; exact h))⟩
theorem wipe_get (σ : L2.St) : ∀ (vs : List Nat) (j : Nat), (wipe σ vs)[j]? = if j ∈ vs then (if j < σ.length then some none else none) else σ[j]?
  | [], j => by simp [wipe]
  | v :: vs, j => by
    unfold wipe
    by_cases e : v = j
    · subst e
      by_cases hl : v < σ.length
      · rw [List.getElem?_set_self (by rw [wipe_length]; exact hl)]
        simp [hl]
      · rw [List.getElem?_eq_none (by simp [wipe_length]; omega)]
        simp [hl]
    · rw [List.getElem?_set_ne e, wipe_get σ vs j]
      have e2 : ¬ j = v := fun z => e z.symm
      by_cases hj : j ∈ vs
      · simp [hj]
      · simp [hj, e2]
theorem Off.wipe (vs : List Nat) (σ : L2.St) : Off vs σ (wipe σ vs) := ⟨wipe_length σ vs, fun j h => by rw [wipe_get, if_neg h]⟩
theorem wipe_off {vs : List Nat} {σ σ' : L2.St} (h : Off vs σ σ') : L2.wipe σ' vs = L2.wipe σ vs := by
  refine List.ext_getElem? fun j => ?_
  rw [wipe_get, wipe_get, h.1]
  by_cases hj : j ∈ vs
  · simp [hj]
  · rw [if_neg hj, if_neg hj, h.2 j hj]
def wipeE (es : List Ent) : List Nat → List Ent
  | [] => es
  | v :: vs => (wipeE es vs).set v .any
theorem Ok.wipe (x : Ok K R B g es F σ H) : ∀ vs : List Nat, Ok K R B g (wipeE es vs) F (wipe σ vs) H
  | [] => x
  | v :: vs => by
    have y := (x.wipe vs).forget v
    unfold wipeE L2.wipe
    refine ⟨y.i, y.t, by simpa using y.len, fun j e h => ?_, fun j k e e' a n h1 h2 h3 h4 h5 h6 => ?_⟩
    · rcases set_get h with ⟨rfl, rfl, hl⟩ | ⟨ne, h⟩
      · exact ⟨none, List.getElem?_set_self (by rw [(x.wipe vs).len]; exact hl), trivial⟩
      · rw [List.getElem?_set_ne ne]
        exact y.ent j e (by rw [List.getElem?_set_ne ne]; exact h)
    · rcases set_get h1 with ⟨rfl, rfl, _⟩ | ⟨n1, k1⟩
      · cases h3
      · rcases set_get h2 with ⟨rfl, rfl, _⟩ | ⟨n2, k2⟩
        · cases h4
        · rw [List.getElem?_set_ne n1] at h5
          rw [List.getElem?_set_ne n2] at h6
          exact y.dis j k e e' a n h1 h2 h3 h4 h5 h6
def OffE (vs : List Nat) (es es' : List Ent) : Prop := es'.length = es.length ∧ ∀ j, j ∉ vs → es'[j]? = es[j]?
theorem OffE.wipe (es : List Ent) : ∀ vs : List Nat, OffE vs es (wipeE es vs)
  | [] => ⟨rfl, fun _ _ => rfl⟩
  | v :: vs => by
    have := OffE.wipe es vs
    unfold wipeE
    refine ⟨by simp [this.1], fun j h => ?_⟩
    have h1 : v ≠ j := fun e => h (by simp [e])
    have h2 : j ∉ vs := fun e => h (by simp [e])
    rw [List.getElem?_set_ne h1]
    exact this.2 j h2
/-- a target: what it binds, which slots -/
structure Tgt (K : PySem.W.Frag) (tg : TG) (vs : List Nat) (bind : T → List Ent → List Ent → Prop) : Prop where
  run : ∀ (R : Rs) (B : Bs R) (g : R.G) (es es' : List Ent) (F H : Hp) (σ : L2.St) (v : V) (t : T), Ok K R B g es F σ H → Rep K F v t → bind t es es' →
    ∃ σ', Ok K R B g es' F σ' H ∧ Off vs σ σ' ∧ OffE vs es es' ∧ ∀ Q : L2.St → Hp → Prop, Q σ' H → tg v σ H Q
theorem tgt_name (i : Nat) (vs : List Nat) (h : i ∈ vs) : Tgt K (gName i) vs fun t es es' => es' = es.set i (.dat t) := by
  refine ⟨fun R B g es es' F H σ v t ok r e => ?_⟩
  subst e
  exact ⟨_, ok.set r, .set h, ⟨by simp, fun j hj => List.getElem?_set_ne (fun e => hj (by rw [← e]; exact h))⟩, fun Q q => q⟩
theorem tgt_tup (i j : Nat) (vs : List Nat) (h : i ∈ vs) (h' : j ∈ vs) : Tgt K (gTup K 2 (gCons (gName i) (gCons (gName j) gNil))) vs fun t es es' => ∃ x y, t = .tup [x, y] ∧ es' = (es.set i (.dat x)).set j (.dat y) := by
  refine ⟨fun R B g es es' F H σ v t ok r e => ?_⟩
  obtain ⟨x, y, rfl, rfl⟩ := e
  cases r with
  | tup h2 h3 =>
    cases h3 with
    | cons r1 h3 => cases h3 with
      | cons r2 h3 => cases h3 with
        | nil =>
          refine ⟨_, (ok.set r1).set r2, (Off.set h).trans (Off.set h'), ⟨by simp, fun k hk => ?_⟩, fun Q q => ⟨_, _, rfl, Evl.ex_t ok.i.ex h2, rfl, _, _, rfl, _, _, rfl, rfl, q⟩⟩
          rw [List.getElem?_set_ne (fun e => hk (by rw [← e]; exact h')), List.getElem?_set_ne (fun e => hk (by rw [← e]; exact h))]
theorem tgt_tup3 (i j k : Nat) (vs : List Nat) (h : i ∈ vs) (h' : j ∈ vs) (h'' : k ∈ vs) : Tgt K (gTup K 3 (gCons (gName i) (gCons (gName j) (gCons (gName k) gNil)))) vs fun t es es' => ∃ x y z, t = .tup [x, y, z] ∧ es' = ((es.set i (.dat x)).set j (.dat y)).set k (.dat z) := by
  refine ⟨fun R B g es es' F H σ v t ok r e => ?_⟩
  obtain ⟨x, y, z, rfl, rfl⟩ := e
  cases r with
  | tup h2 h3 =>
    cases h3 with
    | cons r1 h3 => cases h3 with
      | cons r2 h3 => cases h3 with
        | cons r3 h3 => cases h3 with
          | nil =>
            refine ⟨_, ((ok.set r1).set r2).set r3, ((Off.set h).trans (Off.set h')).trans (Off.set h''), ⟨by simp, fun l hl => ?_⟩, fun Q q => ⟨_, _, rfl, Evl.ex_t ok.i.ex h2, rfl, _, _, rfl, _, _, rfl, _, _, rfl, rfl, q⟩⟩
            rw [List.getElem?_set_ne (fun e => hl (by rw [← e]; exact h'')), List.getElem?_set_ne (fun e => hl (by rw [← e]; exact h')), List.getElem?_set_ne (fun e => hl (by rw [← e]; exact h))]
theorem ws_asgT {tg : TG} {vs : List Nat} {bind : T → List Ent → List Ent → Prop} (G : Tgt K tg vs bind) (h : wE K R B te g es fun t g' es' => ∃ es2, bind t es' es2 ∧ P.nx g' es2) : wS K R B (tAsg te tg) g es P := fun F σ H ok D d => by
  refine h F σ H ok _ fun v t g1 es1 F1 H1 l1 ok1 r h1 => ?_
  obtain ⟨es2, hb, hp⟩ := h1
  obtain ⟨σ2, ok2, _, _, run⟩ := G.run R B g1 es1 es2 F1 H1 σ v t ok1 r hb
  exact run _ (d.nx _ _ _ _ _ l1.f ok2 hp)

/-! ### loops -/
theorem ws_for {wi : TI} {tg : TG} {tb : TS} {vs : List Nat} {bind : T → List Ent → List Ent → Prop} (G : Tgt K tg vs bind)
    (h : wI K R B wi g es fun xs g1 es1 => ∃ Iv : Nat → R.G → List Ent → Prop, Iv 0 g1 es1 ∧
      (∀ n x g2 es2, xs[n]? = some x → Iv n g2 es2 → ∃ eb, bind x es2 eb ∧ wS K R B tb g2 eb { nx := Iv (n + 1), rt := P.rt, bk := P.nx, ct := Iv (n + 1) }) ∧ (∀ g2 es2, Iv xs.length g2 es2 → P.nx g2 es2)) :
    wS K R B (tFor wi tg tb) g es P := fun F σ H ok D d => by
  refine h F σ H ok _ fun J xs g1 es1 F1 H1 l1 ok1 src h1 => ?_
  obtain ⟨Iv, i0, ih, iN⟩ := h1
  refine ⟨fun n m σ H => m = xs.length - n ∧ n ≤ xs.length ∧ ∃ g2 es2 F2, Ex F1 F2 ∧ Ok K R B g2 es2 F2 σ H ∧ Iv n g2 es2, ⟨_, rfl, Nat.zero_le _, g1, es1, F1, Evl.Ex.refl _, ok1, i0⟩, ?_⟩
  rintro n m σ' H' ⟨rfl, hn, g2, es2, F2, e2, ok2, iv⟩
  by_cases hlt : n < xs.length
  · refine .inr ⟨src.go g2 F2 H' ok2.i e2 n hlt, fun σ3 H3 => ∃ g3 es3 F3, Ex F1 F3 ∧ Ok K R B g3 es3 F3 σ3 H3 ∧ Iv (n + 1) g3 es3, fun σ3 H3 ⟨g3, es3, F3, e3, ok3, iv3⟩ => ⟨xs.length - (n + 1), by omega, rfl, hlt, g3, es3, F3, e3, ok3, iv3⟩, fun v H3 y => ?_⟩
    obtain ⟨t, F3, ht, tr, ii, r⟩ := src.yld g2 F2 H' ok2.i e2 n v H3 hlt y
    obtain ⟨eb, hb, hs⟩ := ih n t g2 es2 ht iv
    have ok3 := ok2.step tr ii
    obtain ⟨σb, okb, _, _, run⟩ := G.run R B g2 es2 eb F3 H3 σ' v t ok3 r hb
    refine run _ (hs F3 σb H3 okb _ ⟨fun g4 es4 F4 σ4 H4 e4 ok4 p4 => ⟨g4, es4, F4, (e2.trans tr.f).trans e4, ok4, p4⟩, fun v t g4 F4 H4 e4 => d.rt v t g4 F4 H4 (((l1.f.trans e2).trans tr.f).trans e4),
      fun g4 es4 F4 σ4 H4 e4 => d.nx g4 es4 F4 σ4 H4 (((l1.f.trans e2).trans tr.f).trans e4), fun g4 es4 F4 σ4 H4 e4 ok4 p4 => ⟨g4, es4, F4, (e2.trans tr.f).trans e4, ok4, p4⟩⟩)
  · have e : n = xs.length := by omega
    subst e
    exact .inl ⟨src.stop g2 F2 H' ok2.i e2 _ (Nat.le_refl _), d.nx _ _ _ _ _ (l1.f.trans e2) ok2 (iN _ _ iv)⟩
theorem ws_while {tb : TS} (Iv : Nat → R.G → List Ent → Prop) (h0 : ∃ m, Iv m g es)
    (h : ∀ m g2 es2, Iv m g2 es2 → wT K R B tt g2 es2 fun b g3 es3 => if b = true then wS K R B tb g3 es3 { nx := fun g4 es4 => ∃ m', m' < m ∧ Iv m' g4 es4, rt := P.rt, bk := P.nx, ct := fun g4 es4 => ∃ m', m' < m ∧ Iv m' g4 es4 } else P.nx g3 es3) :
    wS K R B (tWhile tt tb) g es P := fun F σ H ok D d => by
  obtain ⟨m0, i0⟩ := h0
  refine ⟨fun m σ' H' => ∃ g2 es2 F2, Ex F F2 ∧ Ok K R B g2 es2 F2 σ' H' ∧ Iv m g2 es2, ⟨m0, g, es, F, Evl.Ex.refl _, ok, i0⟩, ?_⟩
  rintro m σ' H' ⟨g2, es2, F2, e2, ok2, iv⟩
  refine h m g2 es2 iv F2 σ' H' ok2 _ fun b g3 es3 F3 H3 l3 ok3 h3 => ?_
  cases b with
  | true =>
    refine ⟨fun σ4 H4 => ∃ m', m' < m ∧ ∃ g4 es4 F4, Ex F F4 ∧ Ok K R B g4 es4 F4 σ4 H4 ∧ Iv m' g4 es4, fun σ4 H4 z => z, ?_⟩
    refine h3 F3 σ' H3 ok3 _ ⟨fun g4 es4 F4 σ4 H4 e4 ok4 p4 => ?_, fun v t g4 F4 H4 e4 => d.rt v t g4 F4 H4 ((e2.trans l3.f).trans e4), fun g4 es4 F4 σ4 H4 e4 => d.nx g4 es4 F4 σ4 H4 ((e2.trans l3.f).trans e4), fun g4 es4 F4 σ4 H4 e4 ok4 p4 => ?_⟩
    · obtain ⟨m', hm, iv'⟩ := p4
      exact ⟨m', hm, g4, es4, F4, (e2.trans l3.f).trans e4, ok4, iv'⟩
    · obtain ⟨m', hm, iv'⟩ := p4
      exact ⟨m', hm, g4, es4, F4, (e2.trans l3.f).trans e4, ok4, iv'⟩
  | false => exact d.nx _ _ _ _ _ (e2.trans l3.f) ok3 h3

/-! ### comprehensions -/
def NoOwn (vs : List Nat) (es : List Ent) : Prop := ∀ i e, i ∈ vs → es[i]? = some e → e.own = false
theorem Ok.back {vs : List Nat} {eb : List Ent} {σb : L2.St} (x : Ok K R B g es F σ H) (y : Ok K R B g' eb F' σb H') (e : Ex F F') (hσ : Off vs σ σb) (he : OffE vs es eb) (hn : NoOwn vs es) : Ok K R B g' es F' σ H' := by
  refine ⟨y.i, y.t, x.len, fun j u h => ?_, fun j k u u' a n h1 h2 h3 h4 h5 h6 => ?_⟩
  · by_cases hj : j ∈ vs
    · obtain ⟨s, h1, h2⟩ := x.ent j u h
      refine ⟨s, h1, ?_⟩
      have no := hn j u hj h
      cases u with
      | any => trivial
      | dat t =>
        obtain ⟨v, q1, q2⟩ := h2
        exact ⟨v, q1, q2.up e⟩
      | bor t => exact h2
      | lst _ => cases no
      | dk _ => cases no
    · obtain ⟨s, h1, h2⟩ := y.ent j u (by rw [he.2 j hj]; exact h)
      exact ⟨s, by rw [← hσ.2 j hj]; exact h1, h2⟩
  · have j1 : j ∉ vs := fun z => by
      rw [hn j u z h1] at h3
      cases h3
    have k1 : k ∉ vs := fun z => by
      rw [hn k u' z h2] at h4
      cases h4
    exact y.dis j k u u' a n (by rw [he.2 j j1]; exact h1) (by rw [he.2 k k1]; exact h2) h3 h4 (by rw [hσ.2 j j1]; exact h5) (by rw [hσ.2 k k1]; exact h6)
theorem OwnA.back {vs : List Nat} {eb : List Ent} {σb : L2.St} {a : Addr} (h : OwnA eb σb a) (hσ : Off vs σ σb) (he : OffE vs es eb) (hb : NoOwn vs eb) : OwnA es σ a := by
  obtain ⟨j, e, h1, h2, h3⟩ := h
  have j1 : j ∉ vs := fun z => by
    rw [hb j e z h1] at h2
    cases h2
  exact ⟨j, e, by rw [← he.2 j j1]; exact h1, h2, by rw [← hσ.2 j j1]; exact h3⟩
theorem Lc.back {vs : List Nat} {eb : List Ent} {σb : L2.St} (l : Lc R σb g eb F H g' eb F' H') (hσ : Off vs σ σb) (he : OffE vs es eb) (hb : NoOwn vs eb) : Lc R σ g es F H g' es F' H' := by
  refine ⟨l.f, fun a h => ?_, fun a o h m n => l.kp a o h m fun z => n (z.back hσ he hb), l.al, l.pp, l.mm, fun _ h => h⟩
  rcases l.nw a h with h | h | h | h
  · exact .inl h
  · exact .inr (.inl h)
  · exact .inr (.inr (.inl h))
  · exact .inr (.inr (.inr (h.back hσ he hb)))
/-- an object that is being made, no slot's -/
structure Mk1 (R : Rs) (B : Bs R) (g : R.G) (es : List Ent) (F : Hp) (σ : L2.St) (H : Hp) (D : Addr) (o : HO) : Prop where
  at_ : H D = some o
  nf : F D = none
  np : ¬ R.P g D
  nb : B.H D = none
  no : ¬ OwnA es σ D
theorem Mk1.lc {D : Addr} {o : HO} (m : Mk1 R B g es F σ H D o) (l : Lc R σ g es F H g' es' F' H') : Mk1 R B g' es' F' σ H' D o := by
  refine ⟨l.kp D o m.at_ (fun z => m.np (R.mp z)) m.no, ?_, fun z => ?_, m.nb, fun z => m.no (l.ow D z)⟩
  · cases q : F' D with
    | none => rfl
    | some u =>
      rcases l.nw D (ne_none q) with h | h | h | h
      · exact absurd m.nf h
      · rw [m.at_] at h
        cases h
      · exact absurd h m.np
      · exact absurd h m.no
  · rcases l.pp D z with h | h
    · exact m.np h
    · rw [m.at_] at h
      cases h
theorem we_lc {wi : TI} {tg : TG} {vs : List Nat} {bind : T → List Ent → List Ent → Prop} (G : Tgt K tg vs bind)
    (h : wI K R B wi g es fun xs g1 es1 => NoOwn vs es1 ∧ ∃ Iv : Nat → List T → R.G → Prop, Iv 0 [] g1 ∧
      (∀ n x acc g2, xs[n]? = some x → Iv n acc g2 → ∃ eb, bind x (wipeE es1 vs) eb ∧ NoOwn vs eb ∧ wT K R B tt g2 eb fun b g3 e3 => e3 = eb ∧
        if b = true then wE K R B te g3 eb fun y g4 e4 => e4 = eb ∧ acc.length < sizeLine ∧ Iv (n + 1) (acc ++ [y]) g4 else Iv (n + 1) acc g3) ∧ (∀ acc g2, Iv xs.length acc g2 → post (.lst acc) g2 es1)) :
    wE K R B (tLc wi tg tt te vs) g es post := fun F σ H ok Q q => by
  refine h F σ H ok _ fun J xs g1 es1 F1 H1 l1 ok1 src h1 => ?_
  obtain ⟨no, Iv, i0, ih, iN⟩ := h1
  intro D hD
  have nD : ¬ OwnA es1 σ D := fun z => (ok1.ownH z).1 hD
  refine ⟨fun n m H => m = xs.length - n ∧ n ≤ xs.length ∧ ∃ acc us g2 F2, Lc R σ g1 es1 F1 H1 g2 es1 F2 H ∧ Ok K R B g2 es1 F2 σ H ∧ Mk1 R B g2 es1 F2 σ H D (.lst us) ∧ Reps K F2 us acc ∧ Iv n acc g2, ⟨_, rfl, Nat.zero_le _, [], [], g1, F1, ?_⟩, ?_⟩
  · obtain ⟨tr, ii⟩ := Tr.lay (o := .lst []) ok1.i hD
    exact ⟨.of tr, ok1.step tr ii, ⟨upd_same, Evl.fresh_back ok1.i.ex hD, fun z => R.pn ok1.i.res z hD, none_of ok1.t.al hD, nD⟩, .nil, i0⟩
  rintro n m H' ⟨rfl, hn, acc, us, g2, F2, l2, ok2, mk, rs, iv⟩
  by_cases hlt : n < xs.length
  · refine .inr ⟨src.go g2 F2 H' ok2.i l2.f n hlt, fun H3 => ∃ acc us g3 F3, Lc R σ g1 es1 F1 H1 g3 es1 F3 H3 ∧ Ok K R B g3 es1 F3 σ H3 ∧ Mk1 R B g3 es1 F3 σ H3 D (.lst us) ∧ Reps K F3 us acc ∧ Iv (n + 1) acc g3, fun H3 ⟨acc, us, g3, F3, z⟩ => ⟨xs.length - (n + 1), by omega, rfl, hlt, acc, us, g3, F3, z⟩, fun v H3 y => ?_⟩
    obtain ⟨t, F3, ht, tr, ii, r⟩ := src.yld g2 F2 H' ok2.i l2.f n v H3 hlt y
    obtain ⟨eb, hb, nob, hs⟩ := ih n t acc g2 ht iv
    have ok3 := ok2.step tr ii
    have mk3 := mk.lc (.of (σ := σ) tr)
    have l3 : Lc R σ g1 es1 F1 H1 g2 es1 F3 H3 := l2.trans (.of tr)
    obtain ⟨σb, okb, off, offE, run⟩ := G.run R B g2 (wipeE es1 vs) eb F3 H3 (wipe σ vs) v t (ok3.wipe vs) r hb
    have offσ : Off vs σ σb := (Off.wipe vs σ).trans off
    have offe : OffE vs es1 eb := ⟨offE.1.trans (OffE.wipe es1 vs).1, fun j hj => (offE.2 j hj).trans ((OffE.wipe es1 vs).2 j hj)⟩
    refine run _ ⟨by rw [wipe_off off, wipe_off (Off.wipe vs σ)], ?_⟩
    refine hs F3 σb H3 okb _ fun b g4 e4 F4 H4 l4 ok4 h4 => ?_
    obtain ⟨rfl, h4⟩ := h4
    have l4' : Lc R σ g2 es1 F3 H3 g4 es1 F4 H4 := l4.back offσ offe nob
    cases b with
    | false => exact ⟨acc, us, g4, F4, l3.trans l4', ok3.back ok4 l4.f offσ offe no, mk3.lc l4', (rs.up tr.f).up l4.f, h4⟩
    | true =>
      refine h4 F4 σb H4 ok4 _ fun w y g5 e5 F5 H5 l5 ok5 ry h5 => ?_
      obtain ⟨rfl, hl, iv5⟩ := h5
      have l5' : Lc R σ g4 es1 F4 H4 g5 es1 F5 H5 := l5.back offσ offe nob
      have mk5 := (mk3.lc l4').lc l5'
      have rs5 : Reps K F5 us acc := ((rs.up tr.f).up l4.f).up l5.f
      have okE : Ok K R B g5 es1 F5 σ H5 := (ok3.back ok4 l4.f offσ offe no).back ok5 l5.f offσ offe no
      refine ⟨us, mk5.at_, by rw [rs5.length]; exact hl, acc ++ [y], us ++ [w], g5, F5, ?_, okE.put mk5.nf mk5.np mk5.nb mk5.no, ⟨upd_same, mk5.nf, mk5.np, mk5.nb, mk5.no⟩, rs5.append (.cons ry .nil), iv5⟩
      have l6 := (l3.trans l4').trans l5'
      refine ⟨l6.f, l6.nw, fun a o z m n => ?_, fun a z => ?_, l6.pp, l6.mm, l6.ow⟩
      · rw [upd_ne (ne_of_none z hD)]
        exact l6.kp a o z m n
      · obtain ⟨u, z'⟩ := some_of z
        rw [upd_ne (ne_of_none z' hD)]
        exact l6.al a z
  · have e : n = xs.length := by omega
    subst e
    refine .inl ⟨src.stop g2 F2 H' ok2.i l2.f _ (Nat.le_refl _), ?_⟩
    have ex : Ex F2 (upd F2 D (.lst us)) := Evl.Ex.new mk.nf
    refine q _ (.lst acc) g2 es1 (upd F2 D (.lst us)) H' (l1.trans ⟨l2.f.trans ex, fun a z => ?_, l2.kp, l2.al, l2.pp, l2.mm, l2.ow⟩) (ok2.frz mk.at_ mk.nf mk.np mk.nb mk.no) (.lst (Evl.sq_of upd_same) (rs.up ex)) (iN _ _ iv)
    by_cases ea : a = D
    · subst ea
      exact .inr (.inl hD)
    · rw [upd_ne ea] at z
      exact l2.nw a z
/-- a key -/
def T.key : T → Option Key
  | .int i => some (.inl i) | .str x => some (.inr x) | _ => none
theorem Rep.key {v : V} {t : T} {k : Key} (r : Rep K F v t) (h : t.key = some k) : v = kV k := by
  cases r <;> cases h <;> rfl
def putT (kvs : List (Key × T)) (k : Key) (v : T) : List (Key × T) :=
  if (kvs.any fun kv => decide (kv.1 = k)) = true then kvs.map (fun kv => if kv.1 = k then (kv.1, v) else kv) else kvs ++ [(k, v)]
def valT (kvs : List (Key × T)) (k : Key) : Option T := (kvs.find? fun kv => decide (kv.1 = k)).map (·.2)
theorem RepK.any : ∀ {vs : List (Key × V)} {ts : List (Key × T)} {k : Key}, RepK K F vs ts → (vs.any fun kv => decide (kv.1 = k)) = (ts.any fun kv => decide (kv.1 = k))
  | _, _, _, .nil => rfl
  | _, _, k, .cons a b => by
    rw [List.any_cons, List.any_cons, RepK.any b]
theorem RepK.map : ∀ {vs : List (Key × V)} {ts : List (Key × T)} {k : Key} {v : V} {t : T}, RepK K F vs ts → Rep K F v t → RepK K F (vs.map fun kv => if kv.1 = k then (kv.1, v) else kv) (ts.map fun kv => if kv.1 = k then (kv.1, t) else kv)
  | _, _, _, _, _, .nil, _ => .nil
  | _, _, k, v, t, .cons (k := k0) a b, r => by
    rw [List.map_cons, List.map_cons]
    by_cases e : k0 = k
    · rw [if_pos e, if_pos e]
      exact .cons r (RepK.map b r)
    · rw [if_neg e, if_neg e]
      exact .cons a (RepK.map b r)
theorem RepK.app : ∀ {vs ws : List (Key × V)} {ts us : List (Key × T)}, RepK K F vs ts → RepK K F ws us → RepK K F (vs ++ ws) (ts ++ us)
  | _, _, _, _, .nil, h => h
  | _, _, _, _, .cons a b, h => .cons a (RepK.app b h)
theorem RepK.put {vs : List (Key × V)} {ts : List (Key × T)} {k : Key} {v : V} {t : T} (h : RepK K F vs ts) (r : Rep K F v t) : RepK K F (putK vs k v) (putT ts k t) := by
  unfold putK putT
  rw [h.any]
  by_cases e : (ts.any fun kv => decide (kv.1 = k)) = true
  · rw [if_pos e, if_pos e]
    exact h.map r
  · rw [if_neg e, if_neg e]
    exact h.app (.cons r .nil)
theorem RepK.val : ∀ {vs : List (Key × V)} {ts : List (Key × T)} {k : Key}, RepK K F vs ts → (∀ t, valT ts k = some t → ∃ v, valV vs k = some v ∧ Rep K F v t) ∧ (valT ts k = none → valV vs k = none)
  | _, _, _, .nil => ⟨fun t h => (by cases h), fun _ => rfl⟩
  | _, _, k, .cons (k := k0) (v := v0) (t := t0) a b => by
    unfold valT valV
    by_cases e : k0 = k
    · simp only [List.find?_cons, e, decide_true]
      exact ⟨fun t h => ⟨v0, rfl, by cases h; exact a⟩, fun h => by cases h⟩
    · simp only [List.find?_cons, e, decide_false]
      exact RepK.val b
theorem RepK.keys : ∀ {vs : List (Key × V)} {ts : List (Key × T)}, RepK K F vs ts → vs.map (·.1) = ts.map (·.1)
  | _, _, .nil => rfl
  | _, _, .cons _ b => by rw [List.map_cons, List.map_cons, RepK.keys b]
theorem we_dc {wi : TI} {tg : TG} {tk tv : TE} {vs : List Nat} {bind : T → List Ent → List Ent → Prop} (G : Tgt K tg vs bind)
    (h : wI K R B wi g es fun xs g1 es1 => NoOwn vs es1 ∧ ∃ Iv : Nat → List (Key × T) → R.G → Prop, Iv 0 [] g1 ∧
      (∀ n x acc g2, xs[n]? = some x → Iv n acc g2 → ∃ eb, bind x (wipeE es1 vs) eb ∧ NoOwn vs eb ∧ wT K R B tt g2 eb fun b g3 e3 => e3 = eb ∧
        if b = true then wE K R B tk g3 eb fun k g4 e4 => e4 = eb ∧ wE K R B tv g4 eb fun y g5 e5 => e5 = eb ∧ ∃ kk, k.key = some kk ∧ acc.length < sizeLine ∧ Iv (n + 1) (putT acc kk y) g5 else Iv (n + 1) acc g3) ∧ (∀ acc g2, Iv xs.length acc g2 → post (.dct acc) g2 es1)) :
    wE K R B (tDc wi tg tt tk tv vs) g es post := fun F σ H ok Q q => by
  refine h F σ H ok _ fun J xs g1 es1 F1 H1 l1 ok1 src h1 => ?_
  obtain ⟨no, Iv, i0, ih, iN⟩ := h1
  intro D hD
  have nD : ¬ OwnA es1 σ D := fun z => (ok1.ownH z).1 hD
  refine ⟨fun n m H => m = xs.length - n ∧ n ≤ xs.length ∧ ∃ acc us g2 F2, Lc R σ g1 es1 F1 H1 g2 es1 F2 H ∧ Ok K R B g2 es1 F2 σ H ∧ Mk1 R B g2 es1 F2 σ H D (.dK us) ∧ RepK K F2 us acc ∧ Iv n acc g2, ⟨_, rfl, Nat.zero_le _, [], [], g1, F1, ?_⟩, ?_⟩
  · obtain ⟨tr, ii⟩ := Tr.lay (o := .dK []) ok1.i hD
    exact ⟨.of tr, ok1.step tr ii, ⟨upd_same, Evl.fresh_back ok1.i.ex hD, fun z => R.pn ok1.i.res z hD, none_of ok1.t.al hD, nD⟩, .nil, i0⟩
  rintro n m H' ⟨rfl, hn, acc, us, g2, F2, l2, ok2, mk, rs, iv⟩
  by_cases hlt : n < xs.length
  · refine .inr ⟨src.go g2 F2 H' ok2.i l2.f n hlt, fun H3 => ∃ acc us g3 F3, Lc R σ g1 es1 F1 H1 g3 es1 F3 H3 ∧ Ok K R B g3 es1 F3 σ H3 ∧ Mk1 R B g3 es1 F3 σ H3 D (.dK us) ∧ RepK K F3 us acc ∧ Iv (n + 1) acc g3, fun H3 ⟨acc, us, g3, F3, z⟩ => ⟨xs.length - (n + 1), by omega, rfl, hlt, acc, us, g3, F3, z⟩, fun v H3 y => ?_⟩
    obtain ⟨t, F3, ht, tr, ii, r⟩ := src.yld g2 F2 H' ok2.i l2.f n v H3 hlt y
    obtain ⟨eb, hb, nob, hs⟩ := ih n t acc g2 ht iv
    have ok3 := ok2.step tr ii
    have mk3 := mk.lc (.of (σ := σ) tr)
    have l3 : Lc R σ g1 es1 F1 H1 g2 es1 F3 H3 := l2.trans (.of tr)
    obtain ⟨σb, okb, off, offE, run⟩ := G.run R B g2 (wipeE es1 vs) eb F3 H3 (wipe σ vs) v t (ok3.wipe vs) r hb
    have offσ : Off vs σ σb := (Off.wipe vs σ).trans off
    have offe : OffE vs es1 eb := ⟨offE.1.trans (OffE.wipe es1 vs).1, fun j hj => (offE.2 j hj).trans ((OffE.wipe es1 vs).2 j hj)⟩
    refine run _ ⟨by rw [wipe_off off, wipe_off (Off.wipe vs σ)], ?_⟩
    refine hs F3 σb H3 okb _ fun b g4 e4 F4 H4 l4 ok4 h4 => ?_
    obtain ⟨rfl, h4⟩ := h4
    have l4' : Lc R σ g2 es1 F3 H3 g4 es1 F4 H4 := l4.back offσ offe nob
    cases b with
    | false => exact ⟨acc, us, g4, F4, l3.trans l4', ok3.back ok4 l4.f offσ offe no, mk3.lc l4', (rs.up tr.f).up l4.f, h4⟩
    | true =>
      refine h4 F4 σb H4 ok4 _ fun w k g5 e5 F5 H5 l5 ok5 rk h5 => ?_
      obtain ⟨rfl, h5⟩ := h5
      refine h5 F5 σb H5 ok5 _ fun w2 y g6 e6 F6 H6 l6 ok6 ry h6 => ?_
      obtain ⟨rfl, kk, hk, hl, iv6⟩ := h6
      have l5' : Lc R σ g4 es1 F4 H4 g5 es1 F5 H5 := l5.back offσ offe nob
      have l6' : Lc R σ g5 es1 F5 H5 g6 es1 F6 H6 := l6.back offσ offe nob
      have mk6 := ((mk3.lc l4').lc l5').lc l6'
      have rs6 : RepK K F6 us acc := (((rs.up tr.f).up l4.f).up l5.f).up l6.f
      have okE : Ok K R B g6 es1 F6 σ H6 := ((ok3.back ok4 l4.f offσ offe no).back ok5 l5.f offσ offe no).back ok6 l6.f offσ offe no
      refine ⟨us, kk, rk.key hk, mk6.at_, by rw [rs6.length]; exact hl, putT acc kk y, putK us kk w2, g6, F6, ?_, okE.put mk6.nf mk6.np mk6.nb mk6.no, ⟨upd_same, mk6.nf, mk6.np, mk6.nb, mk6.no⟩, rs6.put ry, iv6⟩
      have l7 := ((l3.trans l4').trans l5').trans l6'
      refine ⟨l7.f, l7.nw, fun a o z m n => ?_, fun a z => ?_, l7.pp, l7.mm, l7.ow⟩
      · rw [upd_ne (ne_of_none z hD)]
        exact l7.kp a o z m n
      · obtain ⟨u, z'⟩ := some_of z
        rw [upd_ne (ne_of_none z' hD)]
        exact l7.al a z
  · have e : n = xs.length := by omega
    subst e
    refine .inl ⟨src.stop g2 F2 H' ok2.i l2.f _ (Nat.le_refl _), ?_⟩
    have ex : Ex F2 (upd F2 D (.dK us)) := Evl.Ex.new mk.nf
    refine q _ (.dct acc) g2 es1 (upd F2 D (.dK us)) H' (l1.trans ⟨l2.f.trans ex, fun a z => ?_, l2.kp, l2.al, l2.pp, l2.mm, l2.ow⟩) (ok2.frz mk.at_ mk.nf mk.np mk.nb mk.no) (.dct upd_same (rs.up ex)) (iN _ _ iv)
    by_cases ea : a = D
    · subst ea
      exact .inr (.inl hD)
    · rw [upd_ne ea] at z
      exact l2.nw a z
end
end Zc
/-! Z5: operations, built-ins, dicts, slices by data. -/
namespace Zc
open PySem L2
section
variable {K : PySem.W.Frag} {R : Rs} {B : Bs R} {g g' : R.G} {es es' : List Ent} {F F' H H' : Hp} {σ : L2.St} {ta tb te : TE} {tt tu : TT} {post : T → R.G → List Ent → Prop} {pb : Bool → R.G → List Ent → Prop} {P : Po R} {p : T → Prop}
/-! ### numbers -/
theorem wr_int0 {f : Int → Int → Int} {a b : Int} (h : p (.int (f a b))) : wR K R (rI0 fun i j => .int (f i j)) (.int a) (.int b) p := fun g F H vx vy i rx ry Q q => by
  cases rx
  cases ry
  exact ⟨a, b, rfl, rfl, q _ _ F H .refl i (.int _) h⟩
theorem wr_bl0 {f : Int → Int → Bool} {a b : Int} (h : p (.bl (f a b))) : wR K R (rI0 fun i j => .bl (f i j)) (.int a) (.int b) p := fun g F H vx vy i rx ry Q q => by
  cases rx
  cases ry
  exact ⟨a, b, rfl, rfl, q _ _ F H .refl i (.bl _) h⟩
theorem wr_intC {C : Int → Int → Prop} {f : Int → Int → Int} {a b : Int} (c : C a b) (h : p (.int (f a b))) : wR K R (rI C fun i j => .int (f i j)) (.int a) (.int b) p := fun g F H vx vy i rx ry Q q => by
  cases rx
  cases ry
  exact ⟨a, b, rfl, rfl, c, q _ _ F H .refl i (.int _) h⟩
theorem wu_int {f : Int → Int} {a : Int} (h : p (.int (f a))) : wU K R (rU fun i => .int (f i)) (.int a) p := fun g F H vx i rx Q q => by
  cases rx
  exact ⟨a, rfl, q _ _ F H .refl i (.int _) h⟩
/-! ### plain equality -/
theorem wr_eqI {a b : Int} (h : p (.bl (decide (a = b)))) : wR K R rEq (.int a) (.int b) p := fun g F H vx vy i rx ry Q q => by
  cases rx
  cases ry
  have e : decide (V.int a = V.int b) = decide (a = b) := by simp
  refine ⟨rfl, ?_⟩
  rw [e]
  exact q _ _ F H .refl i (.bl _) h
theorem wr_eqS {a b : Str} (h : p (.bl (decide (a = b)))) : wR K R rEq (.str a) (.str b) p := fun g F H vx vy i rx ry Q q => by
  cases rx
  cases ry
  have e : decide (V.str a = V.str b) = decide (a = b) := by simp
  refine ⟨rfl, ?_⟩
  rw [e]
  exact q _ _ F H .refl i (.bl _) h
theorem wr_eqB {a b : Bool} (h : p (.bl (decide (a = b)))) : wR K R rEq (.bl a) (.bl b) p := fun g F H vx vy i rx ry Q q => by
  cases rx
  cases ry
  have e : decide (V.bl a = V.bl b) = decide (a = b) := by simp
  refine ⟨rfl, ?_⟩
  rw [e]
  exact q _ _ F H .refl i (.bl _) h
theorem wr_neI {a b : Int} (h : p (.bl (!decide (a = b)))) : wR K R rNe (.int a) (.int b) p := fun g F H vx vy i rx ry Q q => by
  cases rx
  cases ry
  have e : decide (V.int a = V.int b) = decide (a = b) := by simp
  refine ⟨rfl, ?_⟩
  rw [e]
  exact q _ _ F H .refl i (.bl _) h
theorem wr_neS {a b : Str} (h : p (.bl (!decide (a = b)))) : wR K R rNe (.str a) (.str b) p := fun g F H vx vy i rx ry Q q => by
  cases rx
  cases ry
  have e : decide (V.str a = V.str b) = decide (a = b) := by simp
  refine ⟨rfl, ?_⟩
  rw [e]
  exact q _ _ F H .refl i (.bl _) h
theorem wr_neB {a b : Bool} (h : p (.bl (!decide (a = b)))) : wR K R rNe (.bl a) (.bl b) p := fun g F H vx vy i rx ry Q q => by
  cases rx
  cases ry
  have e : decide (V.bl a = V.bl b) = decide (a = b) := by simp
  refine ⟨rfl, ?_⟩
  rw [e]
  exact q _ _ F H .refl i (.bl _) h
def T.isN : T → Bool
  | .non => true | .raw v => decide (v = .non) | _ => false
theorem Rep.isN {v : V} {t : T} (r : Rep K F v t) : decide (v = .non) = t.isN := by
  cases r <;> first | rfl | (exact decide_eq_false (fun z => by cases z))
theorem wr_isN {x : T} (h : p (.bl x.isN)) : wR K R (fun x y H Q => y = .non ∧ Q (.bl (decide (x = .non))) H) x .non p := fun g F H vx vy i rx ry Q q => by
  cases ry
  refine ⟨rfl, ?_⟩
  rw [rx.isN]
  exact q _ _ F H .refl i (.bl _) h
theorem wr_notN {x : T} (h : p (.bl (!x.isN))) : wR K R (fun x y H Q => y = .non ∧ Q (.bl (!decide (x = .non))) H) x .non p := fun g F H vx vy i rx ry Q q => by
  cases ry
  refine ⟨rfl, ?_⟩
  rw [rx.isN]
  exact q _ _ F H .refl i (.bl _) h
/-! ### subscripts -/
theorem Reps.atI {vs : List V} {ts : List T} {i : Int} {t : T} (r : Reps K F vs ts) (h : L2.atI ts i = some t) : ∃ v, L2.atI vs i = some v ∧ Rep K F v t := by
  unfold L2.atI at h ⊢
  rw [r.length]
  cases e : ixN ts.length i with
  | none =>
    rw [e] at h
    cases h
  | some j =>
    rw [e] at h
    exact r.get h
theorem wr_ixL {ts : List T} {i : Int} (h : ∃ t, L2.atI ts i = some t ∧ p t) : wR K R (rIx K) (.lst ts) (.int i) p := fun g F H vx vy ii rx ry Q q => by
  obtain ⟨t, h1, h2⟩ := h
  cases ry
  cases rx with
  | lst hs rs =>
    obtain ⟨v, e, r⟩ := rs.atI h1
    exact .inl ⟨_, _, i, v, rfl, rfl, Evl.ex_l ii.ex hs, e, q _ _ F H .refl ii r h2⟩
theorem wr_ixT {ts : List T} {i : Int} (h : ∃ t, L2.atI ts i = some t ∧ p t) : wR K R (rIx K) (.tup ts) (.int i) p := fun g F H vx vy ii rx ry Q q => by
  obtain ⟨t, h1, h2⟩ := h
  cases ry
  cases rx with
  | tup hs rs =>
    obtain ⟨v, e, r⟩ := rs.atI h1
    exact .inr (.inl ⟨_, _, i, v, rfl, rfl, Evl.ex_t ii.ex hs, e, q _ _ F H .refl ii r h2⟩)
theorem wr_ixS {z : Str} {i : Int} (h : ∃ c, z.length ≤ sizeLine ∧ L2.atI z.cps.toList i = some c ∧ p (.str ⟨#[c]⟩)) : wR K R (rIx K) (.str z) (.int i) p := fun g F H vx vy ii rx ry Q q => by
  obtain ⟨c, h0, h1, h2⟩ := h
  cases ry
  cases rx
  exact .inr (.inr ⟨z, i, c, rfl, rfl, h0, h1, q _ _ F H .refl ii (.str _) h2⟩)
/-- a[i], a a slot that is own or but read, the item kept -/
theorem we_ixOwn {i : Nat} {ts0 : List T} (e0 : es[i]? = some (.lst ts0)) (h : wE K R B tb g es fun y g1 es1 => ∃ ts n t, es1[i]? = some (.lst ts) ∧ y = .int n ∧ L2.atI ts n = some t ∧ post t g1 es1) : wE K R B (tOp (rIx K) (tVar i) tb) g es post := fun F σ H ok Q q => by
  obtain ⟨s, h1, a, vs0, rfl, _⟩ := ok.ent i _ e0
  refine ⟨_, h1, ?_⟩
  refine h F σ H ok _ fun vy y g1 es1 F1 H1 l1 ok1 ry h2 => ?_
  obtain ⟨ts, n, t, e1, rfl, ht, hp⟩ := h2
  obtain ⟨s, h3, a', vs, rfl, hH, hF, hP, hB, rs⟩ := ok1.ent i _ e1
  rw [h1] at h3
  cases h3
  cases ry
  obtain ⟨v, e, r⟩ := rs.atI ht
  exact .inl ⟨_, _, n, v, rfl, rfl, Evl.sq_of hH, e, q _ _ g1 es1 F1 H1 l1 ok1 r hp⟩
/-! ### lists and tuples joined -/
theorem wr_catT {xs ys : List T} (hx : xs ≠ []) (hy : ys ≠ []) (hl : xs.length + ys.length ≤ sizeLine) (h : p (.tup (xs ++ ys))) : wR K R (rCatT K) (.tup xs) (.tup ys) p := fun g F H vx vy ii rx ry Q q => by
  cases rx with
  | tup h1 r1 => cases ry with
    | tup h2 r2 =>
      have n1 := r1.length
      have n2 := r2.length
      refine ⟨_, _, _, _, rfl, rfl, Evl.ex_t ii.ex h1, Evl.ex_t ii.ex h2, ?_, by omega, fun z => ?_, fun _ pp hp => ?_⟩
      · intro z
        rw [z] at n1
        exact hx (List.eq_nil_of_length_eq_zero n1.symm)
      · rw [z] at n2
        exact absurd (List.eq_nil_of_length_eq_zero n2.symm) hy
      · obtain ⟨tr, i2⟩ := Tr.new (o := .tup (_ ++ _)) ii hp
        exact q _ (.tup (xs ++ ys)) _ _ tr i2 (.tup (Evl.st_of upd_same) ((r1.append r2).up tr.f)) h
/-! ### calls -/
theorem wc_abs {a : Int} (h : p (.int (if a < 0 then -a else a))) : wC K R (fun xs H Q => ∃ i, xs = [.int i] ∧ Q (.int (if i < 0 then -i else i)) H) [.int a] p := fun g F H vx ii rx Q q => by
  cases rx with
  | cons r1 r => cases r with
    | nil =>
      cases r1
      exact ⟨a, rfl, q _ _ F H .refl ii (.int _) h⟩
theorem wc_min2 {a b : Int} (h : p (.int (if b < a then b else a))) : wC K R (fun xs H Q => ∃ i j, xs = [.int i, .int j] ∧ Q (.int (if j < i then j else i)) H) [.int a, .int b] p := fun g F H vx ii rx Q q => by
  cases rx with
  | cons r1 r => cases r with
    | cons r2 r => cases r with
      | nil =>
        cases r1
        cases r2
        exact ⟨a, b, rfl, q _ _ F H .refl ii (.int _) h⟩
theorem wc_max2 {a b : Int} (h : p (.int (if b > a then b else a))) : wC K R (fun xs H Q => ∃ i j, xs = [.int i, .int j] ∧ Q (.int (if j > i then j else i)) H) [.int a, .int b] p := fun g F H vx ii rx Q q => by
  cases rx with
  | cons r1 r => cases r with
    | cons r2 r => cases r with
      | nil =>
        cases r1
        cases r2
        exact ⟨a, b, rfl, q _ _ F H .refl ii (.int _) h⟩
theorem wc_intI {a : Int} (h : p (.int a)) : wC K R (fun xs H Q => (∃ i, xs = [.int i] ∧ Q (.int i) H) ∨ ∃ k, xs = [.bl k] ∧ Q (.int (if k then 1 else 0)) H) [.int a] p := fun g F H vx ii rx Q q => by
  cases rx with
  | cons r1 r => cases r with
    | nil =>
      cases r1
      exact .inl ⟨a, rfl, q _ _ F H .refl ii (.int _) h⟩
theorem wc_intB {a : Bool} (h : p (.int (if a then 1 else 0))) : wC K R (fun xs H Q => (∃ i, xs = [.int i] ∧ Q (.int i) H) ∨ ∃ k, xs = [.bl k] ∧ Q (.int (if k then 1 else 0)) H) [.bl a] p := fun g F H vx ii rx Q q => by
  cases rx with
  | cons r1 r => cases r with
    | nil =>
      cases r1
      exact .inr ⟨a, rfl, q _ _ F H .refl ii (.int _) h⟩
theorem wc_lenL {ts : List T} (h : p (.int ts.length)) : wC K R (fun xs H Q => ∃ x n, xs = [x] ∧ LenV K x H n ∧ Q (.int n) H) [.lst ts] p := fun g F H vx ii rx Q q => by
  cases rx with
  | cons r1 r => cases r with
    | nil => cases r1 with
      | lst h1 r1 => exact ⟨_, ts.length, rfl, .inl ⟨_, Evl.ex_l ii.ex h1, r1.length.symm⟩, q _ _ F H .refl ii (.int _) h⟩
theorem wc_lenT {ts : List T} (h : p (.int ts.length)) : wC K R (fun xs H Q => ∃ x n, xs = [x] ∧ LenV K x H n ∧ Q (.int n) H) [.tup ts] p := fun g F H vx ii rx Q q => by
  cases rx with
  | cons r1 r => cases r with
    | nil => cases r1 with
      | tup h1 r1 => exact ⟨_, ts.length, rfl, .inr ⟨_, Evl.ex_t ii.ex h1, r1.length.symm⟩, q _ _ F H .refl ii (.int _) h⟩
theorem wc_lenS {z : Str} (hz : z.length ≤ sizeLine) (h : p (.int z.length)) : wC K R (fun xs H Q => ∃ x n, xs = [x] ∧ LenV K x H n ∧ Q (.int n) H) [.str z] p := fun g F H vx ii rx Q q => by
  cases rx with
  | cons r1 r => cases r with
    | nil =>
      cases r1
      exact ⟨_, z.length, rfl, ⟨hz, rfl⟩, q _ _ F H .refl ii (.int _) h⟩
theorem wc_listL {ts : List T} (h : p (.lst ts)) : wC K R (fun xs H Q => ∃ p ys, xs = [.ref p] ∧ (SqL K H p ys ∨ SqT K H p ys) ∧ ∀ l, H l = none → Q (.ref l) (upd H l (.lst ys))) [.lst ts] p := fun g F H vx ii rx Q q => by
  cases rx with
  | cons r1 r => cases r with
    | nil => cases r1 with
      | lst h1 r1 =>
        refine ⟨_, _, rfl, .inl (Evl.ex_l ii.ex h1), fun l hl => ?_⟩
        obtain ⟨tr, i2⟩ := Tr.new (o := .lst _) ii hl
        exact q _ (.lst ts) _ _ tr i2 (.lst (Evl.sq_of upd_same) (r1.up tr.f)) h
theorem wc_listT {ts : List T} (h : p (.lst ts)) : wC K R (fun xs H Q => ∃ p ys, xs = [.ref p] ∧ (SqL K H p ys ∨ SqT K H p ys) ∧ ∀ l, H l = none → Q (.ref l) (upd H l (.lst ys))) [.tup ts] p := fun g F H vx ii rx Q q => by
  cases rx with
  | cons r1 r => cases r with
    | nil => cases r1 with
      | tup h1 r1 =>
        refine ⟨_, _, rfl, .inr (Evl.ex_t ii.ex h1), fun l hl => ?_⟩
        obtain ⟨tr, i2⟩ := Tr.new (o := .lst _) ii hl
        exact q _ (.lst ts) _ _ tr i2 (.lst (Evl.sq_of upd_same) (r1.up tr.f)) h
def keyT : Key → T
  | .inl i => .int i | .inr x => .str x
theorem RepK.keyReps (F' : Hp) : ∀ {vs : List (Key × V)} {ts : List (Key × T)}, RepK K F vs ts → Reps K F' (vs.map fun kv => kV kv.1) (ts.map fun kv => keyT kv.1)
  | _, _, .nil => .nil
  | _, _, .cons (k := k) _ b => by
    refine .cons ?_ (RepK.keyReps F' b)
    cases k with
    | inl i => exact .int i
    | inr x => exact .str x
theorem wc_listD {ts : List (Key × T)} (h : p (.lst (ts.map fun kv => keyT kv.1))) : wC K R (fun xs H Q => ∃ (a : Addr) (kvs : List (Key × V)), xs = [.ref a] ∧ Rd H a (.dK kvs) ∧ ∀ p, H p = none → Q (.ref p) (upd H p (.lst (kvs.map fun kv => kV kv.1)))) [.dct ts] p := fun g F H vx ii rx Q q => by
  cases rx with
  | cons r1 r => cases r with
    | nil => cases r1 with
      | dct h1 r1 =>
        refine ⟨_, _, rfl, .inl (ii.ex _ _ h1), fun l hl => ?_⟩
        obtain ⟨tr, i2⟩ := Tr.new (o := .lst _) ii hl
        exact q _ _ _ _ tr i2 (.lst (Evl.sq_of upd_same) (r1.keyReps _)) h
theorem wc_sortI {ns : List Int} (h : ∀ ns' : List Int, ns'.Perm ns → ns'.Pairwise (· ≤ ·) → p (.lst (ns'.map .int))) : wC K R (rSortedI K) [.lst (ns.map .int)] p := fun g F H vx ii rx Q q => by
  cases rx with
  | cons r1 r => cases r with
    | nil => cases r1 with
      | lst h1 r1 =>
        cases r1.ints
        refine ⟨_, ns, rfl, Evl.ex_l ii.ex h1, fun ns' l e1 e2 hl => ?_⟩
        obtain ⟨tr, i2⟩ := Tr.new (o := .lst (ns'.map V.int)) ii hl
        exact q _ (.lst (ns'.map .int)) _ _ tr i2 (.lst (Evl.sq_of upd_same) (.of_ints _ _)) (h ns' e1 e2)
theorem wc_all {ns : List Bool} (h : p (.bl (ns.all id))) : wC K R (rAll K) [.lst (ns.map .bl)] p := fun g F H vx ii rx Q q => by
  cases rx with
  | cons r1 r => cases r with
    | nil => cases r1 with
      | lst h1 r1 =>
        cases r1.bls
        exact ⟨_, ns, rfl, Evl.ex_l ii.ex h1, q _ _ F H .refl ii (.bl _) h⟩
theorem wc_any {ns : List Bool} (h : p (.bl (ns.any id))) : wC K R (rAny K) [.lst (ns.map .bl)] p := fun g F H vx ii rx Q q => by
  cases rx with
  | cons r1 r => cases r with
    | nil => cases r1 with
      | lst h1 r1 =>
        cases r1.bls
        exact ⟨_, ns, rfl, Evl.ex_l ii.ex h1, q _ _ F H .refl ii (.bl _) h⟩
theorem wc_sum {ns : List Int} (h : p (.int ns.sum)) : wC K R (rSum K) [.lst (ns.map .int)] p := fun g F H vx ii rx Q q => by
  cases rx with
  | cons r1 r => cases r with
    | nil => cases r1 with
      | lst h1 r1 =>
        cases r1.ints
        exact ⟨_, ns, rfl, Evl.ex_l ii.ex h1, q _ _ F H .refl ii (.int _) h⟩
/-! ### isinstance -/
def T.typ : T → Option String
  | .non => some "NoneType" | .bl _ => some "bool" | .int _ => some "int" | .str _ => some "str" | .lst _ => some "list" | .tup _ => some "tuple" | .dct _ => some "dict" | .raw _ => none
theorem Rep.typ {v : V} {t : T} {n : String} (r : Rep K F v t) (h : t.typ = some n) (e : Ex F H) : TyX K H v (.type n) := by
  cases r with
  | non => cases h; exact .base .non
  | bl b => cases h; exact .base (.bl b)
  | int b => cases h; exact .base (.int b)
  | str b => cases h; exact .base (.str b)
  | lst h1 _ =>
    cases h
    rcases h1 with (h1 | ⟨o, h1⟩) | ⟨o, its, n, q1, q2, _⟩
    · exact .base (.lst (e _ _ h1))
    · exact .base (.frz (e _ _ h1))
    · exact .kList q1 q2
  | tup h1 _ =>
    cases h
    rcases h1 with (h1 | ⟨o, h1⟩) | ⟨o, its, n, q1, q2, _⟩
    · exact .base (.tup (e _ _ h1))
    · exact .fTuple (e _ _ h1)
    · exact .kTuple q1 q2
  | dct h1 _ =>
    cases h
    exact .base (.dK (e _ _ h1))
  | raw _ => cases h
theorem we_isi {n : String} (h : wE K R B te g es fun x g1 es1 => ∃ t b, x.typ = some t ∧ kitB t n = some b ∧ post (.bl b) g1 es1) : wE K R B (tCB (rIsi K) (tCons te (tCons (tC (.ty n)) tNil))) g es post := fun F σ H ok Q q => by
  refine h F σ H ok _ fun vx x g1 es1 F1 H1 l1 ok1 rx h1 => ?_
  obtain ⟨t, b, e1, e2, h1⟩ := h1
  exact ⟨vx, .ty n, .type t, .type n, b, rfl, .ty n, rx.typ e1 ok1.i.ex, kit_ty e2, q _ _ g1 es1 F1 H1 l1 ok1 (.bl b) h1⟩
theorem we_isiT {n m : String} (h : wE K R B te g es fun x g1 es1 => ∃ t b1 b2, x.typ = some t ∧ kitB t n = some b1 ∧ kitB t m = some b2 ∧ post (.bl (b1 || b2)) g1 es1) : wE K R B (tCB (rIsiT K) (tCons te (tCons (tTup (tCons (tC (.ty n)) (tCons (tC (.ty m)) tNil))) tNil))) g es post := fun F σ H ok Q q => by
  refine h F σ H ok _ fun vx x g1 es1 F1 H1 l1 ok1 rx h1 => ?_
  obtain ⟨t, b1, b2, e1, e2, e3, h1⟩ := h1
  refine ⟨by show 2 ≤ sizeLine; decide, fun tp htp => ?_⟩
  obtain ⟨tr, i2⟩ := Tr.new (o := .tup [.ty n, .ty m]) ok1.i htp
  refine ⟨vx, tp, [.ty n, .ty m], .type t, [.type n, .type m], b1 || b2, rfl, upd_same, .cons (.ty n) (.cons (.ty m) .nil), (rx.up tr.f).typ e1 i2.ex, ?_, q _ _ g1 es1 _ _ (l1.trans (.of tr)) (ok1.step tr i2) (.bl _) h1⟩
  refine kitAny_cons (kit_ty e2) (fun z => ?_) (fun z => by rw [z]; rfl)
  rw [z]
  exact kitAny_cons (kit_ty e3) (fun z2 => by rw [z2]; rfl) (fun z2 => by rw [z2]; rfl)
/-! ### dicts -/
theorem we_dget (h : wE K R B ta g es fun x g1 es1 => wE K R B tb g1 es1 fun y g2 es2 => ∃ kvs k t, x = .dct kvs ∧ y.key = some k ∧ valT kvs k = some t ∧ post t g2 es2) : wE K R B (tDGet ta tb) g es post := fun F σ H ok Q q => by
  refine h F σ H ok _ fun vx x g1 es1 F1 H1 l1 ok1 rx h1 => ?_
  refine h1 F1 σ H1 ok1 _ fun vy y g2 es2 F2 H2 l2 ok2 ry h2 => ?_
  obtain ⟨kvs, k, t, rfl, e1, e2, hp⟩ := h2
  cases rx with
  | dct h3 r3 =>
    obtain ⟨v, e3, r⟩ := (RepK.val r3).1 t e2
    refine ⟨_, v, rfl, .inl ⟨_, k, .inl (ok2.i.ex _ _ (l2.f _ _ h3)), ry.key e1, e3.symm⟩, q _ _ g2 es2 F2 H2 (l1.trans l2) ok2 (r.up l2.f) hp⟩
theorem we_dgetOwn {i : Nat} {ts0 : List (Key × T)} (e0 : es[i]? = some (.dk ts0)) (h : wE K R B tb g es fun y g1 es1 => ∃ kvs k t, es1[i]? = some (.dk kvs) ∧ y.key = some k ∧ valT kvs k = some t ∧ post t g1 es1) : wE K R B (tDGet (tVar i) tb) g es post := fun F σ H ok Q q => by
  obtain ⟨s, h1, a, vs0, rfl, _⟩ := ok.ent i _ e0
  refine ⟨_, h1, ?_⟩
  refine h F σ H ok _ fun vy y g1 es1 F1 H1 l1 ok1 ry h2 => ?_
  obtain ⟨kvs, k, t, e1, ek, ht, hp⟩ := h2
  obtain ⟨s, h3, a', vs, rfl, hH, hF, hP, hB, rs⟩ := ok1.ent i _ e1
  rw [h1] at h3
  cases h3
  obtain ⟨v, e3, r⟩ := (RepK.val rs).1 t ht
  exact ⟨_, v, rfl, .inl ⟨_, k, .inl hH, ry.key ek, e3.symm⟩, q _ _ g1 es1 F1 H1 l1 ok1 r hp⟩
theorem RepK.isSome {vs : List (Key × V)} {ts : List (Key × T)} {k : Key} (r : RepK K F vs ts) : (valV vs k).isSome = (valT ts k).isSome := by
  cases e : valT ts k with
  | none => rw [(RepK.val r).2 e] <;> rfl
  | some t =>
    obtain ⟨v, e1, _⟩ := (RepK.val r).1 t e
    rw [e1] <;> rfl
theorem we_din (h : wE K R B tb g es fun y g1 es1 => wE K R B ta g1 es1 fun x g2 es2 => ∃ kvs k, x = .dct kvs ∧ y.key = some k ∧ post (.bl (valT kvs k).isSome) g2 es2) : wE K R B (tDIn tb ta) g es post := fun F σ H ok Q q => by
  refine h F σ H ok _ fun vx x g1 es1 F1 H1 l1 ok1 rx h1 => ?_
  refine h1 F1 σ H1 ok1 _ fun vy y g2 es2 F2 H2 l2 ok2 ry h2 => ?_
  obtain ⟨kvs, k, rfl, e1, hp⟩ := h2
  cases ry with
  | dct h3 r3 =>
    refine ⟨_, _, rfl, .inl ⟨_, k, .inl (ok2.i.ex _ _ h3), rx.key e1, rfl⟩, ?_⟩
    rw [r3.isSome]
    exact q _ _ g2 es2 F2 H2 (l1.trans l2) ok2 (.bl _) hp
theorem we_dnotin (h : wE K R B tb g es fun y g1 es1 => wE K R B ta g1 es1 fun x g2 es2 => ∃ kvs k, x = .dct kvs ∧ y.key = some k ∧ post (.bl (!(valT kvs k).isSome)) g2 es2) : wE K R B (tDNotIn tb ta) g es post := fun F σ H ok Q q => by
  refine h F σ H ok _ fun vx x g1 es1 F1 H1 l1 ok1 rx h1 => ?_
  refine h1 F1 σ H1 ok1 _ fun vy y g2 es2 F2 H2 l2 ok2 ry h2 => ?_
  obtain ⟨kvs, k, rfl, e1, hp⟩ := h2
  cases ry with
  | dct h3 r3 =>
    refine ⟨_, _, rfl, .inl ⟨_, k, .inl (ok2.i.ex _ _ h3), rx.key e1, rfl⟩, ?_⟩
    rw [r3.isSome]
    exact q _ _ g2 es2 F2 H2 (l1.trans l2) ok2 (.bl _) hp
/-- x[k] = v, x an own dict -/
theorem ws_dput {i : Nat} {tv ty : TE} {ts0 : List (Key × T)} (h : wE K R B tv g es fun v g1 es1 => (∃ ts0, es1[i]? = some (.dk ts0)) ∧ wE K R B ty g1 es1 fun y g2 es2 => ∃ kvs k, es2[i]? = some (.dk kvs) ∧ y.key = some k ∧ kvs.length < sizeLine ∧ P.nx g2 (es2.set i (.dk (putT kvs k v)))) :
    wS K R B (sDPut (tVar i) ty tv) g es P := fun F σ H ok D d => by
  refine h F σ H ok _ fun vx x g1 es1 F1 H1 l1 ok1 rx h1 => ?_
  obtain ⟨⟨ts1, e1⟩, h1⟩ := h1
  obtain ⟨s, z1, a, vs1, rfl, _⟩ := ok1.ent i _ e1
  refine ⟨_, z1, ?_⟩
  refine h1 F1 σ H1 ok1 _ fun vy y g2 es2 F2 H2 l2 ok2 ry h2 => ?_
  obtain ⟨kvs, k, e2, ek, hl, hp⟩ := h2
  obtain ⟨s, h3, a', vs, rfl, hH, hF, hP, hB, rs⟩ := ok2.ent i _ e2
  rw [z1] at h3
  cases h3
  have ow : OwnA es2 σ a := ⟨i, _, e2, rfl, z1⟩
  refine ⟨a, _, rfl, .inl ⟨vs, k, hH, ry.key ek, by rw [rs.length]; exact hl, rfl⟩, ?_⟩
  exact d.nx _ _ _ _ _ (l1.f.trans l2.f) (ok2.chg (o := .dK (putK vs k vx)) (e := .dk (putT kvs k x)) ow z1 ⟨_, e2, rfl⟩ ⟨a, _, rfl, upd_same, hF, hP, hB, rs.put (rx.up l2.f)⟩) hp
end
end Zc
/-! Z6: equality of data at depth; defs by name; automation. -/
namespace Zc
open PySem L2
mutual
def T.py : T → PyData
  | .non => .none | .bl b => .bool b | .int i => .int i | .str x => .str x | .lst xs => .list (pys xs) | .tup xs => .tuple (pys xs) | .dct _ => .none | .raw _ => .none
def pys : List T → List PyData
  | [] => []
  | t :: ts => t.py :: pys ts
end
mutual
/-- plain data: no dict, no raw value, texts that fit -/
def T.ok : T → Bool
  | .non => true | .bl _ => true | .int _ => true | .str x => PyData.canLay0 (.str x) | .lst xs => oks xs | .tup xs => oks xs | .dct _ => false | .raw _ => false
def oks : List T → Bool
  | [] => true
  | t :: ts => t.ok && oks ts
end
mutual
def T.dep : T → Nat
  | .lst xs => deps xs + 1 | .tup xs => deps xs + 1 | _ => 0
def deps : List T → Nat
  | [] => 0
  | t :: ts => max t.dep (deps ts)
end
section
variable {K : PySem.W.Frag} {F F' H : Hp}
mutual
theorem T.canLay : ∀ t : T, t.ok = true → t.py.canLay0 = true
  | .non, _ => rfl
  | .bl _, _ => rfl
  | .int _, _ => rfl
  | .str _, h => h
  | .lst xs, h => pys_canLay xs h
  | .tup xs, h => pys_canLay xs h
  | .dct _, h => by cases h
  | .raw _, h => by cases h
theorem pys_canLay : ∀ ts : List T, oks ts = true → PyData.canLayAll0 (pys ts) = true
  | [], _ => rfl
  | t :: ts, h => by
    have h' : (t.ok && oks ts) = true := h
    rw [Bool.and_eq_true] at h'
    show (t.py.canLay0 && PyData.canLayAll0 (pys ts)) = true
    rw [T.canLay t h'.1, pys_canLay ts h'.2] <;> rfl
end
mutual
theorem T.depth_py : ∀ t : T, t.py.depth ≤ t.dep
  | .non => Nat.zero_le _
  | .bl _ => Nat.zero_le _
  | .int _ => Nat.zero_le _
  | .str _ => Nat.zero_le _
  | .lst xs => Nat.succ_le_succ (pys_depth xs)
  | .tup xs => Nat.succ_le_succ (pys_depth xs)
  | .dct _ => Nat.zero_le _
  | .raw _ => Nat.zero_le _
theorem pys_depth : ∀ ts : List T, PyData.depthAll (pys ts) ≤ deps ts
  | [] => Nat.zero_le _
  | t :: ts => by
    show max t.py.depth (PyData.depthAll (pys ts)) ≤ max t.dep (deps ts)
    have h1 := T.depth_py t
    have h2 := pys_depth ts
    omega
end
theorem T.shaped {t : T} (h : t.ok = true) (d : t.dep ≤ 64) : SeqAt.shaped t.py = true := by
  unfold SeqAt.shaped
  rw [T.canLay t h, Bool.true_and]
  exact decide_eq_true (Nat.le_trans (T.depth_py t) d)
mutual
theorem Rep.dp (e : Ex F H) : ∀ (t : T) (v : V), t.ok = true → Rep K F v t → Dp K H v t.py
  | .non, _, _, .non => .non
  | .bl _, _, _, .bl b => .bl b
  | .int _, _, _, .int b => .int b
  | .str _, _, _, .str b => .str b
  | .lst ts, _, h, .lst (xs := xs) a b => .lst (Evl.ex_l e a) (Reps.dp e ts xs h b)
  | .tup ts, _, h, .tup (xs := xs) a b => .tup (Evl.ex_t e a) (Reps.dp e ts xs h b)
  | .dct _, _, h, _ => by cases h
  | .raw _, _, h, _ => by cases h
theorem Reps.dp (e : Ex F H) : ∀ (ts : List T) (vs : List V), oks ts = true → Reps K F vs ts → DpAll K H vs (pys ts)
  | [], _, _, .nil => .nil
  | t :: ts, _, h, .cons (v := v) (vs := vs) a b => by
    have h' : (t.ok && oks ts) = true := h
    rw [Bool.and_eq_true] at h'
    exact .cons (Rep.dp e t v h'.1 a) (Reps.dp e ts vs h'.2 b)
end
variable {R : Rs} {p : T → Prop}
theorem wr_eqD {x y : T} (hx : x.ok = true) (dx : x.dep ≤ 64) (hy : y.ok = true) (dy : y.dep ≤ 64) (h : p (.bl (PyData.eqv x.py y.py))) : wR K R (rEqD K) x y p := fun g F H vx vy i rx ry Q q =>
  ⟨x.py, y.py, Rep.dp i.ex x vx hx rx, Rep.dp i.ex y vy hy ry, T.shaped hx dx, T.shaped hy dy, q _ _ F H .refl i (.bl _) h⟩
theorem wr_neD {x y : T} (hx : x.ok = true) (dx : x.dep ≤ 64) (hy : y.ok = true) (dy : y.dep ≤ 64) (h : p (.bl (!PyData.eqv x.py y.py))) : wR K R (rNeD K) x y p := fun g F H vx vy i rx ry Q q =>
  ⟨x.py, y.py, Rep.dp i.ex x vx hx rx, Rep.dp i.ex y vy hy ry, T.shaped hx dx, T.shaped hy dy, q _ _ F H .refl i (.bl _) h⟩
theorem eqv_nil (xs : List T) : PyData.eqv (T.lst xs).py (T.lst []).py = xs.isEmpty := by cases xs <;> rfl
/-- x in (a, b, ..) of numbers and texts -/
theorem inV_int (k : Int) : ∀ ns : List Int, inV (.int k) (ns.map V.int) = decide (k ∈ ns)
  | [] => rfl
  | n :: ns => by
    show (eqV (.int n) (.int k) || inV (.int k) (ns.map V.int)) = _
    rw [inV_int k ns]
    have e : eqV (.int n) (.int k) = decide (k = n) := by
      show (n == k) = _
      by_cases h : k = n
      · subst h; simp
      · have : ¬ n = k := fun z => h z.symm
        simp [h, this]
    rw [e]
    by_cases h : k = n <;> simp [h]
theorem inV_str (k : Str) : ∀ ns : List Str, inV (.str k) (ns.map V.str) = decide (k ∈ ns)
  | [] => rfl
  | n :: ns => by
    show (eqV (.str n) (.str k) || inV (.str k) (ns.map V.str)) = _
    rw [inV_str k ns]
    have e : eqV (.str n) (.str k) = decide (k = n) := by
      show decide (n = k) = _
      by_cases h : k = n
      · subst h; simp
      · have : ¬ n = k := fun z => h z.symm
        simp [h, this]
    rw [e]
    by_cases h : k = n <;> simp [h]
theorem flat_ints : ∀ ns : List Int, (ns.map V.int).all flatV = true
  | [] => rfl
  | _ :: ns => flat_ints ns
theorem flat_strs : ∀ ns : List Str, (ns.map V.str).all flatV = true
  | [] => rfl
  | _ :: ns => flat_strs ns
theorem wr_inIL {k : Int} {ns : List Int} (h : p (.bl (decide (k ∈ ns)))) : wR K R (rIn K false) (.int k) (.lst (ns.map .int)) p := fun g F H vx vy i rx ry Q q => by
  cases rx
  cases ry with
  | lst h1 r1 =>
    cases r1.ints
    refine ⟨_, _, rfl, .inl (Evl.ex_l i.ex h1), rfl, flat_ints ns, ?_⟩
    show Q (.bl (inV (.int k) (ns.map V.int))) H
    rw [inV_int]
    exact q _ _ F H .refl i (.bl _) h
theorem wr_niIL {k : Int} {ns : List Int} (h : p (.bl (!decide (k ∈ ns)))) : wR K R (rIn K true) (.int k) (.lst (ns.map .int)) p := fun g F H vx vy i rx ry Q q => by
  cases rx
  cases ry with
  | lst h1 r1 =>
    cases r1.ints
    refine ⟨_, _, rfl, .inl (Evl.ex_l i.ex h1), rfl, flat_ints ns, ?_⟩
    show Q (.bl (!inV (.int k) (ns.map V.int))) H
    rw [inV_int]
    exact q _ _ F H .refl i (.bl _) h
theorem wr_inST {k : Str} {ns : List Str} (h : p (.bl (decide (k ∈ ns)))) : wR K R (rIn K false) (.str k) (.tup (ns.map .str)) p := fun g F H vx vy i rx ry Q q => by
  cases rx
  cases ry with
  | tup h1 r1 =>
    cases r1.strs'
    refine ⟨_, _, rfl, .inr (Evl.ex_t i.ex h1), rfl, flat_strs ns, ?_⟩
    show Q (.bl (inV (.str k) (ns.map V.str))) H
    rw [inV_str]
    exact q _ _ F H .refl i (.bl _) h
theorem wr_inS2 {k a b : Str} (h : p (.bl (decide (k ∈ [a, b])))) : wR K R (rIn K false) (.str k) (.tup [.str a, .str b]) p := wr_inST (ns := [a, b]) h
end
/-- a def that is called by its name -/
structure Cal (P : Program) (w : World) (K : PySem.W.Frag) (mg : Str → Option Value) (base : Heap) (k : Nat) (x : Str) (ps : List Str) (sp : Sp) : Prop where
  ex : ∃ f fd, FnOk P w K mg base CX0 k f fd ps sp ∧ mg x = some (.ref f) ∧ PySem.W.keepIn K (.ref f) = true ∧ Binds K fd ps []
theorem pe_cal {X : Cx} {k j : Nat} {ps : List Str} {sp : Sp} {x : Str} {p pos : Pos} {e : Expr} {es : List Expr} {t : TA} (C : Cal X.prog X.w X.K X.mg X.base k x ps sp) (hr : Room j X.A) (hj : k ≤ j) (hg : Gl X x)
    (ha : PA X (e :: es) t) (hd : (x == ("__debug__" : Str)) = false := by decide) (hs : starEach (e :: es) X.env = (false, eval e X.env) :: starEach es X.env := by rfl)
    (hpl : (backTo pos (starEach es X.env)).any (·.1) = false := by rfl) : PE X (.Call (.Name x p) (e :: es) [] pos) (tCall sp [] E0 t) := by
  obtain ⟨f, fd, F, m, kp, b⟩ := C.ex
  exact pe_call F (hr.mono hj) hg m kp b .nil pass0 ha hd hs hpl
theorem Cal.up {P : Program} {w : World} {K : PySem.W.Frag} {mg : Str → Option Value} {base : Heap} {k j : Nat} {x : Str} {ps : List Str} {sp : Sp} (C : Cal P w K mg base k x ps sp) (h : k ≤ j) : Cal P w K mg base j x ps sp := by
  obtain ⟨f, fd, F, m⟩ := C.ex
  exact ⟨f, fd, F.mono h, m⟩
/-! ### the entry of a def -/
section
variable {K : PySem.W.Frag} {R : Rs}
def paramE : List Bool → List T → List Ent
  | m :: ms, t :: ts => (if m = true then .bor t else .dat t) :: paramE ms ts
  | _, _ => []
theorem ArgsOk.len {g : R.G} {F H : Hp} : ∀ {ms : List Bool} {vs : List V} {ts : List T}, ArgsOk K R g F H ms vs ts → vs.length = ts.length ∧ ms.length = ts.length
  | _, _, _, .nil => ⟨rfl, rfl⟩
  | _, _, _, .dat _ h => ⟨congrArg Nat.succ h.len.1, congrArg Nat.succ h.len.2⟩
  | _, _, _, .bor _ h => ⟨congrArg Nat.succ h.len.1, congrArg Nat.succ h.len.2⟩
theorem paramE_len : ∀ {ms : List Bool} {ts : List T}, ms.length = ts.length → (paramE ms ts).length = ts.length
  | [], [], _ => rfl
  | _ :: ms, _ :: ts, h => congrArg Nat.succ (paramE_len (Nat.succ.inj h))
  | [], _ :: _, h => by cases h
  | _ :: _, [], h => by cases h
theorem ArgsOk.ent {g : R.G} {F H : Hp} : ∀ {ms : List Bool} {vs : List V} {ts : List T}, ArgsOk K R g F H ms vs ts → ∀ (i : Nat) e, (paramE ms ts)[i]? = some e → ∃ v, vs[i]? = some v ∧ EntOk K R ⟨g, F, H⟩ g F H (some v) e ∧ e.own = false
  | _, _, _, .nil, i, e, h => by cases h
  | _, _, _, .dat r _, 0, e, h => by
    cases h
    exact ⟨_, rfl, ⟨_, rfl, r⟩, rfl⟩
  | _, _, _, .bor r _, 0, e, h => by
    cases h
    exact ⟨_, rfl, ⟨_, rfl, r⟩, rfl⟩
  | _, _, _, .dat _ b, i + 1, e, h => b.ent i e h
  | _, _, _, .bor _ b, i + 1, e, h => b.ent i e h
theorem enter {ms : List Bool} {pre : DSp R} {N : List Str} {vs : List V} {H : Hp} {Q : VK} {E : XK} {t : TS} (h : spD K R ms pre vs H Q E)
    (hl : ∀ ts g post, pre ts g post → ts.length ≤ N.length)
    (hb : ∀ B ts g (post : T → R.G → Prop), pre ts g post → wS K R B t g (paramE ms ts ++ List.replicate (N.length - ts.length) .any) { nx := fun g' _ => post .non g', rt := post }) :
    t { nx := fun _ H' => Q .non H', rt := Q } (L2.start N vs) H := by
  obtain ⟨F, ts, g, post, i, a, hp, hq⟩ := h
  obtain ⟨l1, l2⟩ := a.len
  have l3 := paramE_len l2
  have ll := hl ts g post hp
  refine hb ⟨g, F, H⟩ ts g post hp F (L2.start N vs) H ⟨i, .refl, ?_, fun j e q => ?_, fun j k e e' b n q1 q2 q3 q4 q5 q6 => ?_⟩ _ ⟨fun g' es' F' σ' H' _ ok q => ?_, fun v t g' F' H' _ i tr r q => ?_, fun _ _ _ _ _ _ _ q => q.elim, fun _ _ _ _ _ _ _ q => q.elim⟩
  · unfold L2.start
    simp [l1, l3]
  · rcases Nat.lt_or_ge j ts.length with hj | hj
    · rw [List.getElem?_append_left (by rw [l3]; exact hj)] at q
      obtain ⟨v, h1, h2, _⟩ := a.ent j e q
      refine ⟨some v, ?_, h2⟩
      unfold L2.start
      rw [List.getElem?_append_left (by rw [List.length_map, l1]; exact hj), List.getElem?_map, h1] <;> rfl
    · rw [List.getElem?_append_right (by rw [l3]; exact hj)] at q
      have e1 : e = .any := (List.mem_replicate.mp (List.mem_of_getElem? q)).2
      subst e1
      have hj2 : j - (paramE ms ts).length < N.length - ts.length := by
        have := (List.getElem?_eq_some_iff.mp q).1
        rw [List.length_replicate] at this
        exact this
      rw [l3] at hj2
      refine ⟨none, ?_, trivial⟩
      unfold L2.start
      rw [List.getElem?_append_right (by rw [List.length_map, l1]; exact hj), List.length_map, l1]
      rw [List.getElem?_replicate, if_pos hj2]
  · have no : ∀ (j : Nat) e, (paramE ms ts ++ List.replicate (N.length - ts.length) Ent.any)[j]? = some e → e.own = false := fun j e q => by
      rcases Nat.lt_or_ge j ts.length with hj | hj
      · rw [List.getElem?_append_left (by rw [l3]; exact hj)] at q
        obtain ⟨v, h1, h2, h3⟩ := a.ent j e q
        exact h3
      · rw [List.getElem?_append_right (by rw [l3]; exact hj)] at q
        have e1 : e = .any := (List.mem_replicate.mp (List.mem_of_getElem? q)).2
        subst e1
        rfl
    rw [no j e q1] at q3
    cases q3
  · exact hq .non .non g' F' H' ok.t ok.i .non q
  · exact hq v t g' F' H' tr i r q
theorem spD_len {ms : List Bool} {pre : DSp R} {n : Nat} (h : ∀ ts g post, pre ts g post → ts.length = n) : ∀ vs H Q E, spD K R ms pre vs H Q E → vs.length = n := fun vs H Q E ⟨F, ts, g, post, i, a, hp, _⟩ => a.len.1.trans (h ts g post hp)
end
end Zc
/-! Z7: statements with their four ends apart; a dict comprehension given to a name; the built-ins' names. -/
namespace Zc
open PySem L2
def wQ (K : PySem.W.Frag) (R : Rs) (B : Bs R) (ts : TS) (g : R.G) (es : List Ent) (nx : R.G → List Ent → Prop) (rt : T → R.G → Prop) (bk ct : R.G → List Ent → Prop) : Prop := wS K R B ts g es ⟨nx, rt, bk, ct⟩
section
variable {K : PySem.W.Frag} {R : Rs} {B : Bs R} {g g' : R.G} {es es' : List Ent} {ta tb te : TE} {tt tu : TT} {nx bk ct : R.G → List Ent → Prop} {rt : T → R.G → Prop} {post : T → R.G → List Ent → Prop}
theorem wq_seq {t u : TS} (h : wQ K R B t g es (fun g1 es1 => wQ K R B u g1 es1 nx rt bk ct) rt bk ct) : wQ K R B (tSeq t u) g es nx rt bk ct := ws_seq (P := ⟨nx, rt, bk, ct⟩) h
theorem wq_next (h : nx g es) : wQ K R B tNext g es nx rt bk ct := ws_next (P := ⟨nx, rt, bk, ct⟩) h
theorem wq_break (h : bk g es) : wQ K R B tBreak g es nx rt bk ct := ws_break (P := ⟨nx, rt, bk, ct⟩) h
theorem wq_cont (h : ct g es) : wQ K R B tCont g es nx rt bk ct := ws_cont (P := ⟨nx, rt, bk, ct⟩) h
theorem wq_if {t u : TS} (h : wT K R B tt g es fun b g1 es1 => if b = true then wQ K R B t g1 es1 nx rt bk ct else wQ K R B u g1 es1 nx rt bk ct) : wQ K R B (tIfS tt t u) g es nx rt bk ct := ws_if (P := ⟨nx, rt, bk, ct⟩) h
theorem wq_ret (h : wE K R B te g es fun t g' _ => rt t g') : wQ K R B (tRet te) g es nx rt bk ct := ws_ret (P := ⟨nx, rt, bk, ct⟩) h
theorem wq_retN (h : rt .non g) : wQ K R B tRetN g es nx rt bk ct := ws_retN (P := ⟨nx, rt, bk, ct⟩) h
theorem wq_drop (h : wE K R B te g es fun _ g' es' => nx g' es') : wQ K R B (tDrop te) g es nx rt bk ct := ws_drop (P := ⟨nx, rt, bk, ct⟩) h
theorem wq_set {i : Nat} (h : wE K R B te g es fun t g' es' => nx g' (es'.set i (.dat t))) : wQ K R B (tAsg te (gName i)) g es nx rt bk ct := ws_set (P := ⟨nx, rt, bk, ct⟩) h
theorem wq_setT {i j : Nat} (h : wE K R B te g es fun t g' es' => ∃ x y, t = .tup [x, y] ∧ nx g' ((es'.set i (.dat x)).set j (.dat y))) : wQ K R B (tAsg te (gTup K 2 (gCons (gName i) (gCons (gName j) gNil)))) g es nx rt bk ct := ws_setT (P := ⟨nx, rt, bk, ct⟩) h
theorem wq_setL {i : Nat} {t : TA} (h : wA K R B t g es fun ts g' es' => ts.length ≤ sizeLine ∧ nx g' (es'.set i (.lst ts))) : wQ K R B (tAsg (tLst t) (gName i)) g es nx rt bk ct := ws_setL (P := ⟨nx, rt, bk, ct⟩) h
theorem wq_setD {i : Nat} (h : nx g (es.set i (.dk []))) : wQ K R B (tAsg tDNewK (gName i)) g es nx rt bk ct := ws_setD (P := ⟨nx, rt, bk, ct⟩) h
theorem wq_dput {i : Nat} {tv ty : TE} (h : wE K R B tv g es fun v g1 es1 => (∃ ts0, es1[i]? = some (.dk ts0)) ∧ wE K R B ty g1 es1 fun y g2 es2 => ∃ kvs k, es2[i]? = some (.dk kvs) ∧ y.key = some k ∧ kvs.length < sizeLine ∧ nx g2 (es2.set i (.dk (putT kvs k v)))) :
    wQ K R B (sDPut (tVar i) ty tv) g es nx rt bk ct := ws_dput (P := ⟨nx, rt, bk, ct⟩) (ts0 := []) h
theorem wq_for {wi : TI} {tg : TG} {tb : TS} {vs : List Nat} {bind : T → List Ent → List Ent → Prop} (G : Tgt K tg vs bind)
    (h : wI K R B wi g es fun xs g1 es1 => ∃ Iv : Nat → R.G → List Ent → Prop, Iv 0 g1 es1 ∧
      (∀ n x g2 es2, xs[n]? = some x → Iv n g2 es2 → ∃ eb, bind x es2 eb ∧ wQ K R B tb g2 eb (Iv (n + 1)) rt nx (Iv (n + 1))) ∧ (∀ g2 es2, Iv xs.length g2 es2 → nx g2 es2)) :
    wQ K R B (tFor wi tg tb) g es nx rt bk ct := ws_for (P := ⟨nx, rt, bk, ct⟩) G h
theorem wq_while {tb : TS} (Iv : Nat → R.G → List Ent → Prop) (h0 : ∃ m, Iv m g es)
    (h : ∀ m g2 es2, Iv m g2 es2 → wT K R B tt g2 es2 fun b g3 es3 => if b = true then wQ K R B tb g3 es3 (fun g4 es4 => ∃ m', m' < m ∧ Iv m' g4 es4) rt nx (fun g4 es4 => ∃ m', m' < m ∧ Iv m' g4 es4) else nx g3 es3) :
    wQ K R B (tWhile tt tb) g es nx rt bk ct := ws_while (P := ⟨nx, rt, bk, ct⟩) Iv h0 h
theorem wq_par {i j : Nat} {t : TA} (h : wA K R B t g es fun ts g' es' => ∃ x y, ts = [x, y] ∧ nx g' ((es'.set i (.dat x)).set j (.dat y))) : wQ K R B (tPar i j t) g es nx rt bk ct := fun F σ H ok D d => by
  refine h F σ H ok _ fun vs ts g1 es1 F1 H1 l1 ok1 rs h1 => ?_
  obtain ⟨x, y, rfl, h1⟩ := h1
  cases rs with
  | cons r1 rs => cases rs with
    | cons r2 rs => cases rs with
      | nil => exact ⟨_, _, rfl, d.nx _ _ _ _ _ l1.f ((ok1.set r1).set r2) h1⟩
theorem we_notT (h : wE K R B te g es fun x g1 es1 => ∃ c, x.tru = some c ∧ post (.bl (!c)) g1 es1) : wE K R B (tNotT K te) g es post := fun F σ H ok Q q => by
  refine h F σ H ok _ fun vx x g1 es1 F1 H1 l1 ok1 rx h1 => ?_
  obtain ⟨c, e, h1⟩ := h1
  exact ⟨c, rx.tru ok1.i.ex e, q _ _ g1 es1 F1 H1 l1 ok1 (.bl _) h1⟩
theorem we_andT (h : wE K R B ta g es fun x g1 es1 => ∃ c, x.tru = some c ∧ if c = true then wE K R B tb g1 es1 post else post x g1 es1) : wE K R B (tAndT K ta tb) g es post := fun F σ H ok Q q => by
  refine h F σ H ok _ fun vx x g1 es1 F1 H1 l1 ok1 rx h1 => ?_
  obtain ⟨c, e, h1⟩ := h1
  refine ⟨c, rx.tru ok1.i.ex e, ?_⟩
  cases c with
  | true => exact h1 F1 σ H1 ok1 Q fun v t g2 es2 F2 H2 l2 => q v t g2 es2 F2 H2 (l1.trans l2)
  | false => exact q _ _ g1 es1 F1 H1 l1 ok1 rx h1
theorem we_orT (h : wE K R B ta g es fun x g1 es1 => ∃ c, x.tru = some c ∧ if c = true then post x g1 es1 else wE K R B tb g1 es1 post) : wE K R B (tOrT K ta tb) g es post := fun F σ H ok Q q => by
  refine h F σ H ok _ fun vx x g1 es1 F1 H1 l1 ok1 rx h1 => ?_
  obtain ⟨c, e, h1⟩ := h1
  refine ⟨c, rx.tru ok1.i.ex e, ?_⟩
  cases c with
  | false => exact h1 F1 σ H1 ok1 Q fun v t g2 es2 F2 H2 l2 => q v t g2 es2 F2 H2 (l1.trans l2)
  | true => exact q _ _ g1 es1 F1 H1 l1 ok1 rx h1
theorem wq_enter {ms : List Bool} {pre : DSp R} {N : List Str} {vs : List V} {H : Hp} {Q : VK} {E : XK} {t : TS} (h : spD K R ms pre vs H Q E)
    (hl : ∀ ts g post, pre ts g post → ts.length ≤ N.length)
    (hb : ∀ B ts g (post : T → R.G → Prop), pre ts g post → wQ K R B t g (paramE ms ts ++ List.replicate (N.length - ts.length) .any) (fun g' _ => post .non g') post (fun _ _ => False) (fun _ _ => False)) :
    t { nx := fun _ H' => Q .non H', rt := Q } (L2.start N vs) H := enter h hl hb
/-- a[i], f(a), a but read -/
theorem we_ixBor {i : Nat} {t : T} {r : R2} (e : es[i]? = some (.bor t)) (h : ∀ B1, wE K R B1 (tOp r (tVar i) tb) g (es.map Ent.thaw) fun t g' es' => t.sc = true ∧ es' = es.map Ent.thaw ∧ post t g' es) : wE K R B (tOp r (tVar i) tb) g es post := we_bor h
theorem we_cbBor {i : Nat} {t : T} {r : List V → Hp → VK → Prop} (e : es[i]? = some (.bor t)) (h : ∀ B1, wE K R B1 (tCB r (tCons (tVar i) tNil)) g (es.map Ent.thaw) fun t g' es' => t.sc = true ∧ es' = es.map Ent.thaw ∧ post t g' es) : wE K R B (tCB r (tCons (tVar i) tNil)) g es post := we_bor h
theorem we_cbOwn {i : Nat} {t : List T} {r : List V → Hp → VK → Prop} (e : es[i]? = some (.lst t)) (h : ∀ B1, wE K R B1 (tCB r (tCons (tVar i) tNil)) g (es.map Ent.thaw) fun t g' es' => t.sc = true ∧ es' = es.map Ent.thaw ∧ post t g' es) : wE K R B (tCB r (tCons (tVar i) tNil)) g es post := we_bor h
theorem wt_truBor {i : Nat} {t : T} {pb : Bool → R.G → List Ent → Prop} (e : es[i]? = some (.bor t)) (h : ∀ B1, wT K R B1 (fun σ H Q => tVar i σ H fun x H' => ∃ k, TruV K x H' k ∧ Q k H') g (es.map Ent.thaw) fun b g' es' => es' = es.map Ent.thaw ∧ pb b g' es) :
    wT K R B (fun σ H Q => tVar i σ H fun x H' => ∃ k, TruV K x H' k ∧ Q k H') g es pb := wt_bor h
theorem noOwn1 {i : Nat} {e : Ent} (h : es[i]? = some e) (ho : e.own = false) : NoOwn [i] es := fun j e' hj he => by
  cases (List.mem_singleton.mp hj)
  rw [h] at he
  cases he
  exact ho
/-- [e for x in xs]: each item has p -/
theorem we_lcAll {i : Nat} {wi : TI} (p : T → Prop) (h : wI K R B wi g es fun xs g1 es1 => xs.length ≤ 100000 ∧ NoOwn [i] es1 ∧ (∀ x ∈ xs, wE K R B te g1 (es1.set i (.dat x)) fun y g3 e3 => g3 = g1 ∧ e3 = es1.set i (.dat x) ∧ p y) ∧
    ∀ ys, ys.length = xs.length → (∀ y ∈ ys, p y) → post (.lst ys) g1 es1) : wE K R B (tLc wi (gName i) tYes te [i]) g es post := by
  refine we_lc (tgt_name i [i] (List.mem_singleton.mpr rfl)) fun F σ H ok Q q => h F σ H ok Q fun J xs g1 es1 F1 H1 l o s hh => q J xs g1 es1 F1 H1 l o s ?_
  obtain ⟨hl, no, he, hp⟩ := hh
  refine ⟨no, fun n acc g2 => g2 = g1 ∧ acc.length = n ∧ ∀ y ∈ acc, p y, ⟨rfl, rfl, fun y hy => by cases hy⟩, fun n x acc g2 hx hacc => ?_, fun acc g2 hacc => by
    obtain ⟨rfl, h1, h2⟩ := hacc
    exact hp acc h1 h2⟩
  obtain ⟨rfl, hacc⟩ := hacc
  have hn : n < xs.length := (List.getElem?_eq_some_iff.mp hx).1
  refine ⟨es1.set i (.dat x), ?_, ?_, wt_yes ⟨rfl, ?_⟩⟩
  · show es1.set i (.dat x) = (es1.set i .any).set i (.dat x)
    rw [List.set_set]
  · intro j e hj hje
    cases (List.mem_singleton.mp hj)
    rcases set_get hje with ⟨_, rfl, _⟩ | ⟨ne, _⟩
    · rfl
    · exact absurd rfl ne
  · show wE K R B te _ (es1.set i (.dat x)) _
    refine we_mono (he x (List.mem_of_getElem? hx)) fun y g3 e3 hy => ⟨hy.2.1, ?_, hy.1, ?_, ?_⟩
    · rw [hacc.1]
      exact Nat.lt_of_lt_of_le hn (Nat.le_trans hl (by decide))
    · rw [List.length_append, hacc.1] <;> rfl
    · intro z hz
      rcases List.mem_append.mp hz with hz | hz
      · exact hacc.2 z hz
      · cases (List.mem_singleton.mp hz)
        exact hy.2.2
/-- [f x for x in xs if c x], what is shared stays -/
theorem we_lcFM {i : Nat} {wi : TI} (c : T → Bool) (f : T → T) (h : wI K R B wi g es fun xs g1 es1 => xs.length ≤ 100000 ∧ NoOwn [i] es1 ∧ (∀ x ∈ xs, wT K R B tt g1 (es1.set i (.dat x)) fun b g2 e2 => g2 = g1 ∧ e2 = es1.set i (.dat x) ∧ b = c x ∧
    (b = true → wE K R B te g1 (es1.set i (.dat x)) fun y g3 e3 => g3 = g1 ∧ e3 = es1.set i (.dat x) ∧ y = f x)) ∧ post (.lst ((xs.filter c).map f)) g1 es1) : wE K R B (tLc wi (gName i) tt te [i]) g es post := by
  refine we_lc (tgt_name i [i] (List.mem_singleton.mpr rfl)) fun F σ H ok Q q => h F σ H ok Q fun J xs g1 es1 F1 H1 l o s hh => q J xs g1 es1 F1 H1 l o s ?_
  obtain ⟨hl, no, he, hp⟩ := hh
  refine ⟨no, fun n acc g2 => g2 = g1 ∧ acc = (((xs.take n).filter c).map f), ⟨rfl, rfl⟩, fun n x acc g2 hx hacc => ?_, fun acc g2 hacc => ?_⟩
  · obtain ⟨rfl, rfl⟩ := hacc
    have hn : n < xs.length := (List.getElem?_eq_some_iff.mp hx).1
    have e1 : xs.take (n + 1) = xs.take n ++ [x] := by rw [List.take_add_one, hx] <;> rfl
    refine ⟨es1.set i (.dat x), ?_, ?_, ?_⟩
    · show es1.set i (.dat x) = (es1.set i .any).set i (.dat x)
      rw [List.set_set]
    · intro j e hj hje
      cases (List.mem_singleton.mp hj)
      rcases set_get hje with ⟨_, rfl, _⟩ | ⟨ne, _⟩
      · rfl
      · exact absurd rfl ne
    · refine fun F σ H ok Q q => he x (List.mem_of_getElem? hx) F σ H ok Q fun b g2 e2 F2 H2 l2 o2 hb => q b g2 e2 F2 H2 l2 o2 ?_
      obtain ⟨rfl, rfl, rfl, hb⟩ := hb
      refine ⟨rfl, ?_⟩
      cases hc : c x with
      | false =>
        refine ⟨rfl, ?_⟩
        rw [e1, List.filter_append]
        simp [hc]
      | true =>
        show wE K R B te _ _ _
        refine we_mono (hb hc) fun y g3 e3 hy => ?_
        obtain ⟨rfl, rfl, rfl⟩ := hy
        refine ⟨rfl, ?_, rfl, ?_⟩
        · have : ((xs.take n).filter c).length ≤ (xs.take n).length := List.length_filter_le ..
          rw [List.length_map]
          have h2 : (xs.take n).length ≤ xs.length := by simp; omega
          exact Nat.lt_of_le_of_lt this (Nat.lt_of_le_of_lt h2 (Nat.lt_of_le_of_lt hl (by decide)))
        · rw [e1, List.filter_append]
          simp [hc]
  · obtain ⟨rfl, rfl⟩ := hacc
    rw [List.take_length]
    exact hp
/-- a choice by a truth value -/
theorem w_ite {b : Bool} {A C : Prop} (h1 : b = true → A) (h2 : b = false → C) : if b = true then A else C := by
  cases b with
  | true => exact h1 rfl
  | false => exact h2 rfl
theorem w_iteD {c : Prop} [Decidable c] {A C : Prop} (h1 : c → A) (h2 : ¬ c → C) : if decide c = true then A else C := by
  by_cases h : c
  · rw [decide_eq_true h, if_pos rfl]
    exact h1 h
  · rw [decide_eq_false h, if_neg Bool.false_ne_true]
    exact h2 h
theorem w_iteN {c : Prop} [Decidable c] {A C : Prop} (h1 : ¬ c → A) (h2 : c → C) : if (!decide c) = true then A else C := by
  by_cases h : c
  · rw [decide_eq_true h]
    exact h2 h
  · rw [decide_eq_false h]
    exact h1 h
theorem w_iteP {c : Prop} [Decidable c] {A C : Prop} (hc : c) (h : A) : if decide c = true then A else C := by
  rw [decide_eq_true hc]
  exact h
theorem w_iteM {c : Prop} [Decidable c] {A C : Prop} (hc : ¬ c) (h : C) : if decide c = true then A else C := by
  rw [decide_eq_false hc]
  exact h
theorem w_iteT {A C : Prop} (h1 : A) : if true = true then A else C := h1
theorem w_iteF {A C : Prop} (h1 : C) : if false = true then A else C := h1
end
/-! ### {k: v for ..} given to a name -/
theorem sw_trueD {k v : Expr} {gs : List Comprehension} {scope : Scope} {pos py : Pos} {y : Str} {l : Nat} {env : Env} (hk : env.scope.kind = .function) (hy : env.scope.names.lookup y = some .local)
    (hl : (py.line == pos.line) = true) (ha : (scope.names.any fun (n, k) => n == y && (k == .local || k == .cell)) = false) :
    swapsWith (.DictComp k v gs scope pos) (some (.Name y py)) l env = pure true := by
  have e1 : env.kindOf y = some .local := hy
  have e2 : env.blockKind = .function := by
    unfold Env.blockKind
    rw [hk] <;> rfl
  unfold swapsWith
  simp only [e1, e2, ha, Expr.pos, hl]
  rfl
section
variable {X : Cx}
theorem ps_setDc {i : Nat} {y : Str} {py : Pos} {kx vx tg iter : Expr} {ifs : List Expr} {scope : Scope} {own : List (Str × Nat)} {pos spos : Pos} {wi : TI} {gt : TG} {tt : TT} {tk tv : TE} (c : X.calm = true) (nd : X.N.Nodup)
    (hy : X.N[i]? = some y) (loc : X.env.scope.names.lookup y = some .local) (sw : swapsWith (.DictComp kx vx [⟨tg, iter, ifs, 0⟩] scope pos) (some (.Name y py)) spos.line X.env = pure true)
    (pi : PI X tg iter wi) (bo : BlkOk X.N X.env.scope scope own) (pg : ∀ s H C cl fp, PG (X.blk s H scope (compEnvC scope cl C X.env) fp) tg gt) (pt : ∀ s H C cl fp, PTs (X.blk s H scope (compEnvC scope cl C X.env) fp) ifs tt)
    (pk : ∀ s H C cl fp, PE (X.blk s H scope (compEnvC scope cl C X.env) fp) kx tk) (pv : ∀ s H C cl fp, PE (X.blk s H scope (compEnvC scope cl C X.env) fp) vx tv) (fs : ∀ x, foldedSetIterable iter X.env x = pure x := by intro _; rfl) :
    PS X (.Assign [.Name y py] (.DictComp kx vx [⟨tg, iter, ifs, 0⟩] scope pos) spos) (tAsg (tDc wi gt tt tk tv (own.map (·.2))) (gName i)) := by
  refine ⟨fun pins s σ H D inv q => ?_⟩
  rw [exec_Assign_Name_used _ _ _ _ sw]
  refine wpAny_bind (wpAny_standAt (wpAny_bind ?_))
  change wpAny _ X.A (do let _ ← comprehension (.DictComp kx vx [⟨tg, iter, ifs, 0⟩] scope pos) scope X.env (firstIterPos [⟨tg, iter, ifs, 0⟩] pos) newDict false (eval iter X.env) (some (assign (.Name y py) X.env))) _ _ s
  refine wpAny_bind (thn (dc_core (Qf := fun _ s' => SP X pins D .next s') c nd inv pi bo pg pt pk pv fs (show tDc wi gt tt tk tv (own.map (·.2)) σ H (fun x H1 => gName i x σ H1 D.nx) from q) fun L C s1 m H1 i1 q1 nsC fpC => ?_) fun _ s1 z => wpAny_pure (wpAny_pure z))
  change wpAny _ _ (assign (.Name y py) X.env (.ref L)) _ _ _
  refine wpAny_assign_Name (store_ok2 (v := V.ref L) i1 nd hy (.inl loc) rfl (fun s2 i2 ⟨a, sb, at_⟩ => ?_) (.inr loc))
  obtain ⟨w0, w1, w2, w3, w4, w5⟩ := fpC
  refine ⟨m, nsC.sameBut sb ?_, fun h3 sb3 => ⟨_, H1, i2.turned (t' := s2.toks) (fun b o hb e => (sb3.2 b hb).trans e) w0 w1 w3 w4 w5, q1⟩⟩
  rcases at_ with z | z
  · exact z ▸ w1
  · exact fun e => w4 y a z e.symm
end
/-! ### the built-ins that are not hidden by the module -/
structure Bls (mg : Str → Option Value) : Prop where
  len : mg "len" = none
  abs : mg "abs" = none
  min : mg "min" = none
  max : mg "max" = none
  int : mg "int" = none
  list : mg "list" = none
  tuple : mg "tuple" = none
  str : mg "str" = none
  bool : mg "bool" = none
  set : mg "set" = none
  sorted : mg "sorted" = none
  all : mg "all" = none
  any : mg "any" = none
  sum : mg "sum" = none
  range : mg "range" = none
  isinstance : mg "isinstance" = none
  enumerate : mg "enumerate" = none
  zip : mg "zip" = none
  reversed : mg "reversed" = none
  repr : mg "repr" = none
theorem bt_len : bootBuiltins "len" = some (.builtin "len") := PySem.boot_len
theorem bt_abs : bootBuiltins "abs" = some (.builtin "abs") := by decide +kernel
theorem bt_min : bootBuiltins "min" = some (.builtin "min") := by decide +kernel
theorem bt_max : bootBuiltins "max" = some (.builtin "max") := by decide +kernel
theorem bt_int : bootBuiltins "int" = some (.type "int") := by decide +kernel
theorem bt_list : bootBuiltins "list" = some (.type "list") := by decide +kernel
theorem bt_tuple : bootBuiltins "tuple" = some (.type "tuple") := by decide +kernel
theorem bt_str : bootBuiltins "str" = some (.type "str") := by decide +kernel
theorem bt_bool : bootBuiltins "bool" = some (.type "bool") := by decide +kernel
theorem bt_set : bootBuiltins "set" = some (.type "set") := by decide +kernel
theorem bt_sorted : bootBuiltins "sorted" = some (.builtin "sorted") := by decide +kernel
theorem bt_all : bootBuiltins "all" = some (.builtin "all") := by decide +kernel
theorem bt_any : bootBuiltins "any" = some (.builtin "any") := by decide +kernel
theorem bt_sum : bootBuiltins "sum" = some (.builtin "sum") := by decide +kernel
theorem bt_isinstance : bootBuiltins "isinstance" = some (.builtin "isinstance") := by decide +kernel
theorem bt_repr : bootBuiltins "repr" = some (.builtin "repr") := by decide +kernel
end Zc
/-! Zd: the drawn script: a list at an address that all share. -/
namespace Zc
open PySem L2
/-- the draw's list at a: the script's numbers, a place, what is left of a number, the last one -/
structure HasDraw (R : Rs) (a : Addr) : Prop where
  get : ∀ g H, R.Res g H → ∃ (s : Addr) (ns : List Int) (i c d : Int), H a = some (.lst [.ref s, .int i, .int c, .int d]) ∧ H s = some (.lst (ns.map V.int)) ∧ a ≠ s ∧ 0 ≤ i
  set : ∀ g H (s : Addr) (i c d i' c' d' : Int), R.Res g H → H a = some (.lst [.ref s, .int i, .int c, .int d]) → 0 ≤ i' → R.Res g (upd H a (.lst [.ref s, .int i', .int c', .int d']))
  m : ∀ g, R.M g a
/-- the draw alone -/
def drawAt (a s : Addr) (ns : List Int) (H : Hp) : Prop := ∃ i c d : Int, H a = some (.lst [.ref s, .int i, .int c, .int d]) ∧ H s = some (.lst (ns.map V.int)) ∧ a ≠ s ∧ 0 ≤ i
def Rdraw (a s : Addr) (ns : List Int) : Rs where
  G := Unit
  Res := fun _ H => drawAt a s ns H
  P := fun _ x => x = a ∨ x = s
  M := fun _ x => x = a
  mp := fun h => .inl h
  pn := fun {g H b} r h => by
    obtain ⟨i, c, d, h1, h2, _⟩ := r
    rcases h with rfl | rfl
    · exact ne_none h1
    · exact ne_none h2
  put := fun {g H b o} r h => by
    obtain ⟨i, c, d, h1, h2, h3⟩ := r
    refine ⟨i, c, d, ?_, ?_, h3⟩
    · rw [upd_ne (fun e => h (.inl e.symm))]
      exact h1
    · rw [upd_ne (fun e => h (.inr e.symm))]
      exact h2
theorem Rdraw.has (a s : Addr) (ns : List Int) : HasDraw (Rdraw a s ns) a := by
  refine ⟨fun g H r => ?_, fun g H t i c d i' c' d' r h hi => ?_, fun g => rfl⟩
  · obtain ⟨i, c, d, h⟩ := r
    exact ⟨s, ns, i, c, d, h⟩
  · obtain ⟨i0, c0, d0, h1, h2, h3, h4⟩ := r
    rw [h1] at h
    cases h
    refine ⟨i', c', d', upd_same, ?_, h3, hi⟩
    rw [upd_ne (Ne.symm h3)]
    exact h2
/-- what _law_next promises -/
def p_next (R : Rs) (a : Addr) : DSp R := fun ts g post => ∃ m : Int, ts = [.raw (.ref a), .int m] ∧ (0 < m ∧ m < 1073741824) ∧ ∀ r : Int, 0 ≤ r → r < m → post (.int r) g
/-! ### readings of the draw's places -/
section
variable {K : PySem.W.Frag} {σ : L2.St} {H : Hp} {a : Addr} {xs : List V} {k : Int} {v : V} {Q : VK} {te : TE} {D : Ends}
theorem rd_ix (h0 : σ[0]? = some (some (.ref a))) (hH : H a = some (.lst xs)) (hk : atI xs k = some v) (q : Q v H) : tOp (rIx K) (tVar 0) (tC (.int k)) σ H Q :=
  ⟨_, h0, .inl ⟨a, xs, k, v, rfl, rfl, Evl.sq_of hH, hk, q⟩⟩
theorem rd_set {v0 : V} {j : Nat} (h0 : σ[0]? = some (some (.ref a))) (h : te σ H fun x H1 => x = v ∧ H1 = H) (hm : ∀ Q : VK, te σ H (fun x H1 => x = v ∧ H1 = H) → (Q v H → te σ H Q)) (hH : H a = some (.lst xs)) (hj : ixN xs.length k = some j) (q : D.nx σ (upd H a (.lst (xs.set j v)))) :
    tAsg te (gSub (tVar 0) (tC (.int k)) rSetL) D σ H :=
  hm _ h ⟨_, h0, a, xs, k, j, rfl, rfl, hH, hj, q⟩
end
end Zc
namespace Zc
open PySem L2
/-- a def of the module, as the top has left it -/
structure Dfn (K : PySem.W.Frag) (mg : Str → Option Value) (x : Str) (st : Stmt) : Prop where
  ex : ∃ f fd, FunD K x x (defArgs st) (defBody st) (defScope st) [] [] f fd ∧ mg x = some (.ref f)
end Zc
/-! Zs: set(a list of ints), sorted of it. -/
namespace Zs
open PySem PySem.Spec PyProof.Rows L2
abbrev ob0 (w : World) : Obj := { cls := .type "set", dict := none, data := .set #[] 0 (.fresh 0 0 (!w.params.followText "set-order")) }
section
variable {P : Program} {w : World} {A : Around} {E : Value → Shared → Prop} {s : Shared}
theorem set_of_list {l : Addr} {its : Array Value} (ns : List Int) {Q : Value → Shared → Prop} (calm : A.handled = none) (isl : s.heap.IsList l its) (hin : IntsAre its.toList ns) (room : ns.length + 1 < scanBound)
    (fin : ∀ (h2 : Heap) (tk c : Nat), SetR w h2 s.heap.objs.size (fun j => decide (j ∈ ns)) c → c ≤ ns.length → (∀ b o, s.heap.get? b = some o → h2.get? b = some o) → Q (.ref s.heap.objs.size) { s with heap := h2, toks := tk }) :
    wpAny (model P w) A (call (.type "set") [.ref l]) Q E s := by
  have sz : its.size = ns.length := by simpa using IntsAre.length hin
  obtain ⟨c, tl, mro⟩ := F.called_set.mro
  have made := F.called_set.made
  have sub := F.called_set.sub
  refine wpAny_call (codeAny_of_tree ?_)
  change wpAny _ _ (callAny (.type "set") _) _ _ _
  refine wpAny_pure ⟨Code.quiet_builtin _ (by decide +kernel), codeAny_builtin F.entry_type_call ?_⟩
  rw [Around.under_plain (weight_type_call_type "set" [.ref l] []) rfl]
  have nt := F.called_set.notType
  have cc := F.called_set.canCreate
  have tc := F.typeCall_set_1 (.ref l)
  repeat (any_goals (first | assumption | wp_step))
  refine codeAny_mono (code_set_led1 (.ref l) (E := E) (Q₁ := fun ob t => ob = .ref s.heap.objs.size ∧ t = { s with heap := s.heap.push (ob0 w) }) ⟨rfl, rfl⟩) fun r t hr => ?_
  cases r with
  | error e => exact hr
  | ok fl =>
    cases fl with
    | ret ob =>
      obtain ⟨rfl, rfl⟩ := hr
      have gS : (s.heap.push (ob0 w)).get? s.heap.objs.size = some (ob0 w) := Heap.get?_push_size _ rfl
      have tS : Shared.TypeIs { s with heap := s.heap.push (ob0 w) } (.ref s.heap.objs.size) "set" := ⟨_, gS, rfl⟩
      have il := F.called_set.init.lookup
      have ib := F.called_set.init.bind (.ref s.heap.objs.size)
      repeat (any_goals (first | assumption | wp_step))
      refine codeAny_mono (codeAny_call_builtin (R := wants (fun r t => r = .none ∧ ∃ h2 tk c, t = { s with heap := h2, toks := tk } ∧ SetR w h2 s.heap.objs.size (fun j => decide (j ∈ ns)) c ∧ c ≤ ns.length ∧ (∀ b o, s.heap.get? b = some o → h2.get? b = some o)) E)
        F.called_set.init.plain F.entry_set_init (check_set_init_1 tS ?_)) fun r2 t2 hr2 => ?_
      · obtain ⟨ol, hol, oc, nl, od⟩ := isl
        obtain ⟨ocls, odict, odata, oslots⟩ := ol
        simp only at oc od
        subst oc; subst od
        have gl : (s.heap.push (ob0 w)).get? l = some { cls := .type "list", dict := odict, data := .seq its nl, slots := oslots } := Heap.get?_push_of_some _ hol
        have q1 := F.sub_list_set
        have q2 := F.sub_list_frozenset
        have q3 : (Value.type "list" == Value.type "dict") = false := by decide
        have isl2 : (s.heap.push (ob0 w)).IsList l its := ⟨_, gl, rfl, nl, rfl⟩
        unfold Builtin.«set.__init__» noKeywords Builtin.Frozenset.updateFrom
        generalize ePI : pyIter = PI
        wp_walk
        subst ePI
        refine wpAny_pyIter_list isl2 ?_
        refine wpAny_bind (wpAny_runValue ?_)
        have lS : l < s.heap.objs.size := Heap.lt_size hol
        have calm3 : A.in1.in1.in1.handled = none := by simp [calm]
        have sz1 : (s.heap.push (ob0 w)).objs.size = s.heap.objs.size + 1 := Heap.size_push ..
        have lI : l ≠ (s.heap.push (ob0 w)).objs.size := by
          rw [sz1]
          exact Nat.ne_of_lt (Nat.lt_succ_of_lt lS)
        have Sfp : s.heap.objs.size ∉ [(s.heap.push (ob0 w)).objs.size, l] := by
          rw [sz1]
          simp only [List.mem_cons, List.mem_singleton, List.not_mem_nil, or_false, not_or]
          exact ⟨Nat.ne_of_lt (Nat.lt_succ_self _), Nat.ne_of_gt lS⟩
        have val : ∀ (i : Nat) (v : Value), its[i]? = some v → ∃ k t, ns[i]? = some k ∧ v = .int k t := fun i v hv => by
          have hi : i < ns.length := sz ▸ (Array.getElem?_eq_some_iff.mp hv).1
          obtain ⟨t, e⟩ := PyProof.Rows.IntsAre.int_at hin i v (by rw [Array.getElem?_toList]; exact hv)
          exact ⟨ns[i], t, List.getElem?_eq_getElem hi, by rw [e, List.getD_eq_getElem?_getD, List.getElem?_eq_getElem hi] <;> rfl⟩
        refine set_update_ints ((Walks.list calm3 _ l lI its).toS) s.heap.objs.size Sfp ns sz room val (its.size - 0) 0 _ (by omega) (Nat.zero_le _) ⟨⟨_, Heap.get?_push_size _ rfl, rfl, rfl⟩, isl2.push _⟩ ?a0 ?aR
        case a0 => exact ⟨0, Nat.le_refl 0, setR_new_at (Heap.get?_push_of_some _ gS)⟩
        case aR =>
          intro t c mv hc sr
          obtain ⟨h2, g2, d2, tk, o2⟩ := t
          cases (show g2 = s.gens from mv.gens)
          cases (show d2 = s.drawn from mv.drawn)
          cases (show o2 = s.os from mv.os)
          change wpAny _ _ _ _ _ _
          refine wpAny_pure ?_
          change wpAny _ _ (ret Value.none) _ _ _
          rw [sz] at hc
          refine wpAny_pure ⟨rfl, h2, tk, c, rfl, sr, hc, fun b o e => ?_⟩
          have b0 : b < s.heap.objs.size := Heap.lt_size e
          have b2 : b ≠ (s.heap.push (ob0 w)).objs.size := by
            rw [sz1]
            exact Nat.ne_of_lt (Nat.lt_succ_of_lt b0)
          exact mv.heap b o (by simp only [List.mem_cons, List.mem_singleton, List.not_mem_nil, or_false, not_or]; exact ⟨Nat.ne_of_lt b0, b2⟩) (Heap.get?_push_of_some _ (Heap.get?_push_of_some _ e))
      · cases r2 with
        | error e => exact hr2
        | ok fl2 =>
          cases fl2 with
          | ret r =>
            obtain ⟨rfl, h2, tk, c, rfl, sr, hc, kp⟩ := hr2
            repeat (any_goals (first | assumption | wp_step))
            exact fin _ _ _ sr hc kp
          | _ => exact hr2.elim
    | _ => exact hr.elim
end
end Zs
namespace Zc
open PySem L2
/-- set(xs), a list of ints -/
def rSetL (K : PySem.W.Frag) (w : World) : List V → Hp → VK → Prop := fun vs H Q => ∃ (a : Addr) (ns : List Int), vs = [.ref a] ∧ SqL K H a (ns.map V.int) ∧ ns.length < 1000 ∧
  ∀ (p : Addr) (c : Nat), H p = none → c ≤ ns.length → Q (.ref p) (upd H p (SetO w p (fun j => decide (j ∈ ns)) c))
theorem cr_setL {X : Cx} (hc : X.calm = true) : CallR X (.type "set") (rSetL X.K X.w) := by
  intro pins s σ H vs us Q I r h
  obtain ⟨a, ns, rfl, hq, hl, q⟩ := h
  obtain ⟨its, rv, pl, hz⟩ := I.list hq
  rw [Vals.ref1 r]
  refine Zs.set_of_list ns (I.ok.hd hc) pl.isList (by simpa using ints_of_vals rv) (Nat.lt_of_le_of_lt hl (by decide)) fun h2 tk c sr hle kp => ?_
  exact ⟨.ref _, upd H s.heap.objs.size (SetO X.w s.heap.objs.size (fun j => decide (j ∈ ns)) c), I.laid (t' := tk) kp (Nat.le_refl _) (setO_new sr), rfl, q _ _ (I.hok.fresh (Nat.le_refl _)) hle⟩
section
variable {K : PySem.W.Frag} {R : Rs} {B : Bs R} {g : R.G} {es : List Ent} {te : TE} {post : T → R.G → List Ent → Prop}
theorem we_sortSet {w : World} (h : wE K R B te g es fun x g1 es1 => ∃ ns : List Int, x = .lst (ns.map .int) ∧ ns.length < 60 ∧ ∀ ms : List Int, ms.Pairwise (· < ·) → (∀ k, k ∈ ms ↔ k ∈ ns) → post (.lst (ms.map .int)) g1 es1) :
    wE K R B (tCB (rSortedSet w) (tCons (tCB (rSetL K w) (tCons te tNil)) tNil)) g es post := fun F σ H ok Q q => by
  refine h F σ H ok _ fun vx x g1 es1 F1 H1 l1 ok1 rx h1 => ?_
  obtain ⟨ns, rfl, hl, hp⟩ := h1
  cases rx with
  | lst h2 r2 =>
    cases r2.ints
    refine ⟨_, ns, rfl, Evl.ex_l ok1.i.ex h2, by omega, fun p c hn hc => ?_⟩
    obtain ⟨tr, ii⟩ := Tr.lay (o := SetO w p (fun j => decide (j ∈ ns)) c) ok1.i hn
    have ok2 := ok1.step tr ii
    refine ⟨p, _, c, rfl, upd_same, by omega, fun ms l hs hm _ hl2 => ?_⟩
    obtain ⟨tr2, i2⟩ := Tr.new (o := .lst (ms.map V.int)) ok2.i hl2
    exact q _ (.lst (ms.map .int)) g1 es1 _ _ ((l1.trans (.of tr)).trans (.of tr2)) (ok2.step tr2 i2) (.lst (Evl.sq_of upd_same) (.of_ints _ _)) (hp ms hs fun k => (hm k).trans (by simp))
end
end Zc
/-! Zk: the layer's rules with the written part told by name. -/
namespace Zc
open PySem L2
abbrev rLenG (K : PySem.W.Frag) : List V → Hp → VK → Prop := fun xs H Q => ∃ x n, xs = [x] ∧ LenV K x H n ∧ Q (.int n) H
abbrev rListG (K : PySem.W.Frag) : List V → Hp → VK → Prop := fun xs H Q => ∃ p ys, xs = [.ref p] ∧ (SqL K H p ys ∨ SqT K H p ys) ∧ ∀ l, H l = none → Q (.ref l) (upd H l (.lst ys))
abbrev tTruG (K : PySem.W.Frag) (ta : TE) : TT := fun σ H Q => ta σ H fun x H' => ∃ k, TruV K x H' k ∧ Q k H'
section
variable {X : Cx} {K : PySem.W.Frag} {w : World}
theorem ixK (h : X.K = K := by rfl) : IxR X (rIx K) := h ▸ ix_seq
theorem inK (h : X.K = K := by rfl) : OpR X (compareOp .In) (rIn K false) := h ▸ op_in_seq
theorem niK (h : X.K = K := by rfl) : OpR X (compareOp .NotIn) (rIn K true) := h ▸ op_notIn_seq
theorem eqDK (hu : X.A.units + 64 < cLine) (h : X.K = K := by rfl) : OpR X (compareOp .Eq) (rEqD K) := h ▸ op_eqD hu
theorem neDK (hu : X.A.units + 64 < cLine) (h : X.K = K := by rfl) : OpR X (compareOp .NotEq) (rNeD K) := h ▸ op_neD hu
theorem inDK (hu : X.A.units + 65 < cLine) (h : X.K = K := by rfl) : OpR X (compareOp .In) (rInD K) := h ▸ op_inD hu
theorem niDK (hu : X.A.units + 65 < cLine) (h : X.K = K := by rfl) : OpR X (compareOp .NotIn) (rNotInD K) := h ▸ op_notInD hu
theorem catTK (h : X.K = K := by rfl) : OpR X (binaryOp .Add) (rCatT K) := h ▸ op_catT
theorem catAK (h : X.K = K := by rfl) : OpR X (binaryOp .Add) (rCatA K) := h ▸ op_catA
theorem lenK (h : X.K = K := by rfl) : CallR X (.builtin "len") (rLenG K) := h ▸ call_len
theorem listK (h : X.K = K := by rfl) : CallR X (.type "list") (rListG K) := h ▸ call_list_of
theorem sortIK (h : X.K = K := by rfl) : CallR X (.builtin "sorted") (rSortedI K) := h ▸ cr_sortedI
theorem allK (hc : X.calm = true := by rfl) (h : X.K = K := by rfl) : CallR X (.builtin "all") (rAll K) := h ▸ cr_all hc
theorem anyK (hc : X.calm = true := by rfl) (h : X.K = K := by rfl) : CallR X (.builtin "any") (rAny K) := h ▸ cr_any hc
theorem sumK (hc : X.calm = true := by rfl) (h : X.K = K := by rfl) : CallR X (.builtin "sum") (rSum K) := h ▸ cr_sum hc
theorem isiK (h : X.K = K := by rfl) : CallR X (.builtin "isinstance") (rIsi K) := h ▸ call_isi
theorem isiTK (h : X.K = K := by rfl) : CallR X (.builtin "isinstance") (rIsiT K) := h ▸ call_isiT
theorem setLK (hc : X.calm = true := by rfl) (h : X.K = K := by rfl) (hw : X.w = w := by rfl) : CallR X (.type "set") (rSetL K w) := h ▸ hw ▸ cr_setL hc
theorem sortSK (hc : X.calm = true := by rfl) (hw : X.w = w := by rfl) : CallR X (.builtin "sorted") (rSortedSet w) := hw ▸ cr_sortedSet hc
theorem slLK (h : X.K = K := by rfl) : SlR X (rSlL K) := h ▸ sl_list
theorem slTK (h : X.K = K := by rfl) : SlR X (rSlA K) := h ▸ sl_tupA
variable {a l tg : Expr} {ta tl te : TE} {tb : TE} {pos : Pos}
theorem piList (hl : PE X l tl) (h : X.K = K := by rfl) : PI X tg l (iList K tl) := h ▸ pi_list hl
theorem piTup (hl : PE X l tl) (h : X.K = K := by rfl) : PI X tg l (iTup K tl) := h ▸ pi_tup hl
theorem ptTru (ha : PE X a ta) (he : ∀ whole, isTrue a X.env whole = (do let v ← whole; standAt a.pos; holding [v] (truthy v)) := by intro _; rfl) (h : X.K = K := by rfl) : PT X a (tTruG K ta) := h ▸ pt_truth ha he
theorem pgTup {es : List Expr} {k : Nat} {t : TGs} {n : Nat} (hc : X.calm = true) (hp : PGs X es t) (hn : (assignEach es X.env).length = n := by rfl) (hst : (assignEach es X.env).findIdx? (·.1) = none := by rfl) (h : X.K = K := by rfl) :
    PG X (.Tuple es k pos) (gTup K n t) := h ▸ pg_tup hc hp hn hst
theorem peNot (ha : PE X a ta) (h : X.K = K := by rfl) : PE X (.UnaryOp .Not a pos) (tNotT K ta) := h ▸ pe_notT ha
theorem peAnd {b : Expr} {rest : List Expr} (ha : PE X a ta) (hb : PE X (.BoolOp .And (b :: rest) pos) tb) (h : X.K = K := by rfl) : PE X (.BoolOp .And (a :: b :: rest) pos) (tAndT K ta tb) := h ▸ pe_andT ha hb
theorem peOr {b : Expr} {rest : List Expr} (ha : PE X a ta) (hb : PE X (.BoolOp .Or (b :: rest) pos) tb) (h : X.K = K := by rfl) : PE X (.BoolOp .Or (a :: b :: rest) pos) (tOrT K ta tb) := h ▸ pe_orT ha hb
theorem piEnum {e : Expr} {tA : TA} {p pos tpos : Pos} {elts : List Expr} {kk : Nat} (hg : Gl X "enumerate") (hm : X.mg "enumerate" = none) (ha : PA X [e] tA) (hs : starEach [e] X.env = [(false, eval e X.env)] := by rfl) (h : X.K = K := by rfl) :
    PI X (.Tuple elts kk tpos) (.Call (.Name "enumerate" p) [e] [] pos) (iEnum K tA) := h ▸ pi_enum hg hm ha hs
end
section
variable {K : PySem.W.Frag} {R : Rs} {B : Bs R} {g g' : R.G} {es es' : List Ent} {te : TE} {nx bk ct : R.G → List Ent → Prop} {rt : T → R.G → Prop}
/-- behind a statement no more is known than Mid -/
theorem wq_seqM {t u : TS} (Mid : R.G → List Ent → Prop) (h : wQ K R B t g es Mid rt bk ct) (k : ∀ g1 es1, Mid g1 es1 → wQ K R B u g1 es1 nx rt bk ct) : wQ K R B (tSeq t u) g es nx rt bk ct := fun F σ H ok D d =>
  h F σ H ok _ ⟨fun g1 es1 F1 σ1 H1 e1 ok1 h1 => k g1 es1 h1 F1 σ1 H1 ok1 D (d.up e1), d.rt, d.bk, d.ct⟩
theorem w_iteBT {b : Bool} {A C : Prop} (h : b = true) (a : A) : if b = true then A else C := by
  rw [if_pos h]
  exact a
theorem w_iteBF {b : Bool} {A C : Prop} (h : b = false) (a : C) : if b = true then A else C := by
  rw [if_neg (by rw [h]; exact Bool.false_ne_true)]
  exact a
theorem w_isNF {x : T} {A C : Prop} (h : x.isN = false) (a : C) : if x.isN = true then A else C := w_iteBF h a
theorem w_isNT {x : T} {A C : Prop} (h : x.isN = true) (a : A) : if x.isN = true then A else C := w_iteBT h a
theorem w_isNNF {x : T} {A C : Prop} (h : x.isN = false) (a : A) : if (!x.isN) = true then A else C := w_iteBT (by rw [h] <;> rfl) a
theorem w_isNNT {x : T} {A C : Prop} (h : x.isN = true) (a : C) : if (!x.isN) = true then A else C := w_iteBF (by rw [h] <;> rfl) a
theorem isi_i {x : T} {n s : String} {p : Bool → Prop} (h1 : x.typ = some s) (h2 : (kitB s n).isSome = true) (h3 : p ((kitB s n).getD false)) : ∃ t b, x.typ = some t ∧ kitB t n = some b ∧ p b := by
  refine ⟨s, _, h1, ?_, h3⟩
  cases e : kitB s n with
  | none =>
    rw [e] at h2
    cases h2
  | some b => rfl
theorem isiT_i {x : T} {n m s : String} {p : Bool → Bool → Prop} (h1 : x.typ = some s) (h2 : (kitB s n).isSome = true) (h2' : (kitB s m).isSome = true) (h3 : p ((kitB s n).getD false) ((kitB s m).getD false)) : ∃ t b1 b2, x.typ = some t ∧ kitB t n = some b1 ∧ kitB t m = some b2 ∧ p b1 b2 := by
  obtain ⟨t, b1, e1, e2, _⟩ := isi_i (p := fun _ => True) h1 h2 trivial
  obtain ⟨t', b2, e3, e4, _⟩ := isi_i (p := fun _ => True) h1 h2' trivial
  rw [h1] at e1 e3
  cases e1
  cases e3
  rw [e2, e4] at h3
  exact ⟨s, b1, b2, h1, e2, e4, h3⟩
theorem w_iteEN {xs : List T} {A C : Prop} (h1 : xs.length = 0 → A) (h2 : 0 < xs.length → C) : if (!!xs.isEmpty) = true then A else C := by
  cases xs with
  | nil => exact h1 rfl
  | cons x xs => exact h2 (Nat.succ_pos _)
theorem w_iteNP {c : Prop} [Decidable c] {A C : Prop} (hc : ¬ c) (h : A) : if (!decide c) = true then A else C := by
  rw [decide_eq_false hc]
  exact h
theorem w_iteNM {c : Prop} [Decidable c] {A C : Prop} (hc : c) (h : C) : if (!decide c) = true then A else C := by
  rw [decide_eq_true hc]
  exact h
theorem cmul_l {i j : Int} (h : -(2 ^ 64) < i ∧ i < 2 ^ 64) : CMul i j := .inl h
theorem cmul_r {i j : Int} (h : -(2 ^ 64) < j ∧ j < 2 ^ 64) : CMul i j := .inr h
theorem w_iteE {xs : List T} {A C : Prop} (h1 : 0 < xs.length → A) (h2 : xs.length = 0 → C) : if (!xs.isEmpty) = true then A else C := by
  cases xs with
  | nil => exact h2 rfl
  | cons x xs => exact h1 (Nat.succ_pos _)
/-- x = e; of the value no more is known than p -/
theorem wq_seqI {i : Nat} {u : TS} (p : T → Prop) (h : wE K R B te g es fun t g1 es1 => g1 = g ∧ es1 = es ∧ p t) (k : ∀ t, p t → wQ K R B u g (es.set i (.dat t)) nx rt bk ct) : wQ K R B (tSeq (tAsg te (gName i)) u) g es nx rt bk ct :=
  wq_seq (wq_set (we_mono h fun t g1 es1 hh => by
    obtain ⟨rfl, rfl, hp⟩ := hh
    exact k t hp))
end
def natT (ns : List Nat) : List T := ns.map fun n : Nat => T.int (n : Int)
theorem mem_rangeT {n : Nat} {x : T} (h : x ∈ rangeT 0 n) : ∃ k : Nat, k < n ∧ x = .int (k : Int) := by
  obtain ⟨k, hk, rfl⟩ := List.mem_map.mp h
  exact ⟨k, List.mem_range.mp hk, by simp⟩
theorem rangeT_mem {n k : Nat} (h : k < n) : T.int (k : Int) ∈ rangeT 0 n := by
  unfold rangeT
  refine List.mem_map.mpr ⟨k, List.mem_range.mpr h, ?_⟩
  simp
theorem wa_mono {K : PySem.W.Frag} {R : Rs} {B : Bs R} {g : R.G} {es : List Ent} {t : TA} {pl pl' : List T → R.G → List Ent → Prop} (h : wA K R B t g es pl) (m : ∀ ts g es, pl ts g es → pl' ts g es) : wA K R B t g es pl' :=
  fun F σ H ok Q q => h F σ H ok Q fun v t g' es' F' H' l o r p => q v t g' es' F' H' l o r (m _ _ _ p)
section
variable {K : PySem.W.Frag} {R : Rs} {B : Bs R} {g : R.G} {es : List Ent} {te : TE} {tt : TT} {post : T → R.G → List Ent → Prop}
/-- [e for k in range(n)]: each item has p -/
theorem we_lcN {i : Nat} {t : TA} (p : T → Prop) (h : wA K R B t g es fun ts g1 es1 => ∃ j : Int, ts = [.int j] ∧ (0 ≤ j ∧ j ≤ 1000) ∧ NoOwn [i] es1 ∧
    (∀ k : Nat, (k : Int) < j → wE K R B te g1 (es1.set i (.dat (.int (k : Int)))) fun y g3 e3 => g3 = g1 ∧ e3 = es1.set i (.dat (.int (k : Int))) ∧ p y) ∧
    ∀ ys, (ys.length : Int) = j → (∀ y, y ∈ ys → p y) → post (.lst ys) g1 es1) : wE K R B (tLc (iRng1 t) (gName i) tYes te [i]) g es post := by
  refine we_lcAll p (wi_rng1 ?_)
  refine wa_mono h fun ts g1 es1 hh => ?_
  obtain ⟨j, rfl, hj, no, he, hp⟩ := hh
  refine ⟨j, rfl, by omega, ?_, no, fun x hx => ?_, fun ys hl hy => hp ys ?_ hy⟩
  · rw [rangeT_len]
    omega
  · obtain ⟨k, hk, rfl⟩ := mem_rangeT hx
    exact he k (by omega)
  · rw [hl, rangeT_len]
    omega
/-- [k for k in range(n) if c k], what is shared stays -/
theorem we_lcFN {i : Nat} {t : TA} (c : Nat → Bool) (h : wA K R B t g es fun ts g1 es1 => ∃ n : Nat, ts = [.int (n : Int)] ∧ n ≤ 1000 ∧ NoOwn [i] es1 ∧ i < es1.length ∧
    (∀ k : Nat, k < n → wT K R B tt g1 (es1.set i (.dat (.int (k : Int)))) fun b g2 e2 => g2 = g1 ∧ e2 = es1.set i (.dat (.int (k : Int))) ∧ b = c k) ∧
    ∀ ys : List Nat, ys.length ≤ n → (∀ k, k ∈ ys ↔ k < n ∧ c k = true) → post (.lst (natT ys)) g1 es1) : wE K R B (tLc (iRng1 t) (gName i) tt (tVar i) [i]) g es post := by
  refine we_lcFM (fun x => match x with | .int k => c k.toNat | _ => false) id (wi_rng1 ?_)
  refine wa_mono h fun ts g1 es1 hh => ?_
  obtain ⟨n, rfl, hj, no, hi, he, hp⟩ := hh
  refine ⟨(n : Int), rfl, by omega, ?_, no, fun x hx => ?_, ?_⟩
  · rw [rangeT_len]
    omega
  · obtain ⟨k, hk, rfl⟩ := mem_rangeT hx
    refine fun F σ H ok Q q => he k hk F σ H ok Q fun b g2 e2 F2 H2 l2 o2 hb => q b g2 e2 F2 H2 l2 o2 ?_
    obtain ⟨rfl, rfl, rfl⟩ := hb
    refine ⟨rfl, rfl, rfl, fun _ => we_var (List.getElem?_set_self hi) ⟨rfl, rfl, rfl⟩⟩
  · have : ((rangeT 0 (Int.toNat (n : Int))).filter (fun x => match x with | .int k => c k.toNat | _ => false)).map id = natT ((List.range n).filter c) := by
      rw [List.map_id, Int.toNat_natCast]
      unfold rangeT natT
      rw [List.filter_map]
      congr 1
      · funext k
        rw [Int.zero_add]
      · congr 1
        funext k
        show c (0 + (k : Int)).toNat = c k
        rw [Int.zero_add, Int.toNat_natCast]
    rw [this]
    refine hp _ (Nat.le_trans (List.length_filter_le ..) (Nat.le_of_eq List.length_range)) fun k => ?_
    rw [List.mem_filter, List.mem_range]
end
theorem all_map {α : Type} {f : α → T} {P : α → Prop} : ∀ {ys : List T}, (∀ y, y ∈ ys → ∃ x : α, y = f x ∧ P x) → ∃ xs : List α, ys = xs.map f ∧ ∀ x, x ∈ xs → P x
  | [], _ => ⟨[], rfl, fun _ h => nomatch h⟩
  | y :: ys, h => by
    obtain ⟨x, rfl, hx⟩ := h y List.mem_cons_self
    obtain ⟨xs, rfl, hs⟩ := all_map fun y hy => h y (List.mem_cons_of_mem _ hy)
    refine ⟨x :: xs, rfl, fun z hz => ?_⟩
    rcases List.mem_cons.mp hz with rfl | hz
    · exact hx
    · exact hs z hz
end Zc
/-! Zp: cells, expressions, totals, operations as the laws draw them. -/
namespace Zc
open PySem L2
/-- a drawn cell -/
def CellT (t : T) : Prop := t = .non ∨ (∃ i : Int, (0 ≤ i ∧ i ≤ 3) ∧ t = .int i) ∨ t = .str "a" ∨ t = .str "b"
def unW : List Str := ["negate", "not", "missing", "length"]
def binW : List Str := ["add", "subtract", "multiply", "divide", "remainder", "less", "equal", "and", "or", "starts"]
def totW : List Str := ["distinct", "sum", "least", "greatest"]
inductive X where
  | const (t : T) | col (i : Nat) | un (w : Str) (e : X) | bin (w : Str) (a b : X) | cho (c a b : X)
def X.t : X → T
  | .const t => .tup [.str "constant", t]
  | .col i => .tup [.str "column", .int i]
  | .un w e => .tup [.str w, e.t]
  | .bin w a b => .tup [.str w, a.t, b.t]
  | .cho c a b => .tup [.str "choose", c.t, a.t, b.t]
/-- over so many columns, so high at most -/
def X.wf (n : Nat) : Nat → X → Prop
  | _, .const t => CellT t
  | _, .col i => i < n
  | 0, _ => False
  | d + 1, .un w e => w ∈ unW ∧ e.wf n d
  | d + 1, .bin w a b => w ∈ binW ∧ a.wf n d ∧ b.wf n d
  | d + 1, .cho c a b => c.wf n d ∧ a.wf n d ∧ b.wf n d
inductive Fm where
  | count | tot (w : Str) (e : X)
def Fm.t : Fm → T
  | .count => .tup [.str "count"]
  | .tot w e => .tup [.str w, e.t]
def Fm.wf (n : Nat) : Fm → Prop
  | .count => True
  | .tot w e => w ∈ totW ∧ e.wf n 1
inductive Op where
  | table (i : Nat) | step (i : Nat) | filter (e : X) (q : Nat) | map (es : List X) (q : Nat) | group (ks : List X) (ts : List Fm) (q : Nat)
  | join (e : X) (q r : Nat) | anti (e : X) (q r : Nat) | union (q r : Nat) | minus (q r : Nat)
def Op.t : Op → T
  | .table i => .tup [.str "table", .int i]
  | .step i => .tup [.str "step", .int i]
  | .filter e q => .tup [.str "filter", e.t, .int q]
  | .map es q => .tup [.str "map", .lst (es.map X.t), .int q]
  | .group ks ts q => .tup [.str "group", .lst (ks.map X.t), .lst (ts.map Fm.t), .int q]
  | .join e q r => .tup [.str "join", e.t, .int q, .int r]
  | .anti e q r => .tup [.str "anti", e.t, .int q, .int r]
  | .union q r => .tup [.str "union", .int q, .int r]
  | .minus q r => .tup [.str "minus", .int q, .int r]
/-- over operations of such widths, two tables, steps of such widths; its own width -/
def Op.wf (sizes widths steps : List Nat) : Op → Nat → Prop
  | .table i, z => i < widths.length ∧ z = widths.getD i 0
  | .step i, z => i < steps.length ∧ z = steps.getD i 0
  | .filter e q, z => q < sizes.length ∧ e.wf (sizes.getD q 0) 2 ∧ z = sizes.getD q 0
  | .map es q, z => q < sizes.length ∧ (∀ e ∈ es, e.wf (sizes.getD q 0) 1) ∧ 1 ≤ es.length ∧ es.length ≤ 2 ∧ z = es.length
  | .group ks ts q, z => q < sizes.length ∧ (∀ e ∈ ks, e.wf (sizes.getD q 0) 1) ∧ (∀ f ∈ ts, f.wf (sizes.getD q 0)) ∧ ks.length ≤ 2 ∧ ts.length ≤ 2 ∧ 1 ≤ ks.length + ts.length ∧ z = ks.length + ts.length
  | .join e q r, z => q < sizes.length ∧ r < sizes.length ∧ e.wf (sizes.getD q 0 + sizes.getD r 0) 2 ∧ sizes.getD q 0 + sizes.getD r 0 < 5 ∧ z = sizes.getD q 0 + sizes.getD r 0
  | .anti e q r, z => q < sizes.length ∧ r < sizes.length ∧ e.wf (sizes.getD q 0 + sizes.getD r 0) 2 ∧ z = sizes.getD q 0
  | .union q r, z => q < sizes.length ∧ r < sizes.length ∧ sizes.getD r 0 = sizes.getD q 0 ∧ z = sizes.getD q 0
  | .minus q r, z => q < sizes.length ∧ r < sizes.length ∧ sizes.getD r 0 = sizes.getD q 0 ∧ z = sizes.getD q 0
theorem natT_len (ns : List Nat) : (natT ns).length = ns.length := by simp [natT]
theorem ixN_nat {n i : Nat} (h : i < n) : ixN n (i : Int) = some i := by
  unfold ixN
  rw [if_pos (Int.natCast_nonneg i), if_pos (by omega)]
  simp
theorem atI_natT {ns : List Nat} {i : Nat} (h : i < ns.length) : atI (natT ns) (i : Int) = some (.int (ns.getD i 0 : Nat)) := by
  unfold atI
  rw [natT_len, ixN_nat h]
  simp [natT, h]
theorem ixT_i {ns : List Nat} {i : Nat} {p : T → Prop} (h : i < ns.length) (k : p (.int (ns.getD i 0 : Nat))) : ∃ t, atI (natT ns) (i : Int) = some t ∧ p t := ⟨_, atI_natT h, k⟩
theorem ixT_0 {ns : List Nat} {p : T → Prop} (h : 0 < ns.length) (k : p (.int (ns.getD 0 0 : Nat))) : ∃ t, atI (natT ns) 0 = some t ∧ p t := ⟨_, atI_natT h, k⟩
theorem natT_snoc {ns : List Nat} {n : Nat} : natT (ns ++ [n]) = natT ns ++ [.int (n : Int)] := by simp [natT]
theorem atI_last {ns : List Nat} (h : 0 < ns.length) : ∃ z, z ∈ ns ∧ atI (natT ns) (-1) = some (.int (z : Nat)) := by
  refine ⟨ns[ns.length - 1], List.getElem_mem _, ?_⟩
  have e : ixN ns.length (-1) = some (ns.length - 1) := by
    unfold ixN
    rw [if_neg (by decide), if_pos (by omega)]
    congr 1
    omega
  unfold atI
  rw [natT_len, e]
  simp [natT]
  exact ⟨_, List.getElem?_eq_getElem _, rfl⟩
theorem natT_get {ns : List Nat} {i : Nat} (h : i < ns.length) : ∃ t, atI (natT ns) (i : Int) = some t ∧ t = .int (ns.getD i 0 : Nat) := ⟨_, atI_natT h, rfl⟩
theorem Sz.get {ns : List Nat} (h : ∀ n ∈ ns, 1 ≤ n ∧ n ≤ 4) {i : Nat} (hi : i < ns.length) : 1 ≤ ns.getD i 0 ∧ ns.getD i 0 ≤ 4 := by
  have : ns.getD i 0 = ns[i] := by simp [hi]
  rw [this]
  exact h _ (List.getElem_mem hi)
theorem atI_bl {bs : List Bool} {i : Nat} (h : i < bs.length) : atI (bs.map T.bl) (i : Int) = some (.bl (bs.getD i false)) := by
  unfold atI
  rw [List.length_map, ixN_nat h]
  simp [h]
/-- any item -/
theorem ix_mem {ts : List T} {n : Nat} {p : T → Prop} (h1 : (n : Int) < (ts.length : Nat)) (h : ∀ t, t ∈ ts → p t) : ∃ t, atI ts (n : Int) = some t ∧ p t := by
  have hn : n < ts.length := by omega
  refine ⟨ts[n], ?_, h _ (List.getElem_mem hn)⟩
  unfold atI
  rw [ixN_nat hn]
  simp [hn]
theorem mem_words {ws : List Str} {t : T} (h : t ∈ ws.map T.str) : ∃ w, t = .str w ∧ w ∈ ws := by
  obtain ⟨w, h1, h2⟩ := List.mem_map.mp h
  exact ⟨w, h2.symm, h1⟩
/-- the next drawn number -/
theorem p_next_i {R : Rs} {a : Addr} {m : Int} {g : R.G} {post : T → R.G → Prop} (h0 : 0 < m) (h1 : m < 1073741824) (h : ∀ r : Nat, (r : Int) < m → post (.int (r : Int)) g) : p_next R a [.raw (.ref a), .int m] g post := by
  refine ⟨m, rfl, ⟨h0, h1⟩, fun r q0 q1 => ?_⟩
  obtain ⟨n, rfl⟩ := Int.eq_ofNat_of_zero_le q0
  exact h n q1
def p_cell (R : Rs) (a : Addr) : DSp R := fun ts g post => ts = [.raw (.ref a)] ∧ ∀ t, CellT t → post t g
def p_expr (R : Rs) (a : Addr) (d : Nat) : DSp R := fun ts g post => ∃ n : Nat, ts = [.raw (.ref a), .int (n : Int), .int (d : Int)] ∧ n < 1000 ∧ ∀ x : X, x.wf n d → post x.t g
def p_form (R : Rs) (a : Addr) : DSp R := fun ts g post => ∃ n : Nat, ts = [.raw (.ref a), .int (n : Int)] ∧ n < 1000 ∧ ∀ x : Fm, x.wf n → post x.t g
def Sz (ns : List Nat) : Prop := ∀ n ∈ ns, 1 ≤ n ∧ n ≤ 4
def p_oper (R : Rs) (a : Addr) : DSp R := fun ts g post => ∃ sizes widths steps : List Nat, ts = [.raw (.ref a), .lst (natT sizes), .lst (natT widths), .lst (natT steps)] ∧ (Sz sizes ∧ Sz widths ∧ Sz steps ∧ widths ≠ [] ∧ sizes.length ≤ 1000 ∧ widths.length ≤ 1000 ∧ steps.length ≤ 1000) ∧
  ∀ (op : Op) (z : Nat), op.wf sizes widths steps z → post (.tup [op.t, .int (z : Int)]) g
theorem p_cell_i {R : Rs} {a : Addr} {g : R.G} {post : T → R.G → Prop} (h : ∀ t, CellT t → post t g) : p_cell R a [.raw (.ref a)] g post := ⟨rfl, h⟩
theorem p_expr_i {R : Rs} {a : Addr} {d : Nat} {m k : Int} {g : R.G} {post : T → R.G → Prop} (h0 : 0 ≤ m) (h1 : m < 1000) (hk : k = (d : Int)) (h : ∀ x : X, x.wf m.toNat d → post x.t g) : p_expr R a d [.raw (.ref a), .int m, .int k] g post := by
  subst hk
  exact ⟨m.toNat, by rw [Int.toNat_of_nonneg h0], by omega, h⟩
theorem p_form_i {R : Rs} {a : Addr} {m : Int} {g : R.G} {post : T → R.G → Prop} (h0 : 0 ≤ m) (h1 : m < 1000) (h : ∀ x : Fm, x.wf m.toNat → post x.t g) : p_form R a [.raw (.ref a), .int m] g post :=
  ⟨m.toNat, by rw [Int.toNat_of_nonneg h0], by omega, h⟩
theorem wf_mono {n : Nat} : ∀ {d e : Nat} {x : X}, x.wf n d → d ≤ e → x.wf n e
  | _, _, .const t, h, _ => by simpa [X.wf] using h
  | _, _, .col i, h, _ => by simpa [X.wf] using h
  | 0, _, .un _ _, h, _ => h.elim
  | 0, _, .bin _ _ _, h, _ => h.elim
  | 0, _, .cho _ _ _, h, _ => h.elim
  | d + 1, 0, _, _, h => by omega
  | d + 1, e + 1, .un w x, h, l => ⟨h.1, wf_mono h.2 (by omega)⟩
  | d + 1, e + 1, .bin w x y, h, l => ⟨h.1, wf_mono h.2.1 (by omega), wf_mono h.2.2 (by omega)⟩
  | d + 1, e + 1, .cho c x y, h, l => ⟨wf_mono h.1 (by omega), wf_mono h.2.1 (by omega), wf_mono h.2.2 (by omega)⟩
theorem wf_const {n d : Nat} {t : T} (h : CellT t) : (X.const t).wf n d := by cases d <;> exact h
theorem wf_col {n d i : Nat} (h : i < n) : (X.col i).wf n d := by cases d <;> exact h
/-! rooms -/
def Fm.room (n : Nat) : Fm → Nat
  | .count => 1 + n
  | .tot w _ => if w = "sum" then 2 ^ (if 20 < n then 20 else n) else 1 + n
def Op.room (rooms : List Nat) : Op → Nat
  | .table _ => 6
  | .step _ => 130
  | .filter _ q => rooms.getD q 0
  | .map _ q => rooms.getD q 0
  | .group _ ts q => ts.foldl (fun n f => n * f.room (rooms.getD q 0)) (if ts.length = 0 then 1 + 2 * rooms.getD q 0 else 2)
  | .join _ q r => rooms.getD q 0 * rooms.getD r 0
  | .anti _ q _ => rooms.getD q 0
  | .union q r => rooms.getD q 0 + rooms.getD r 0
  | .minus q _ => rooms.getD q 0
def p_room (R : Rs) : DSp R := fun ts g post => ∃ (op : Op) (z : Nat) (sizes widths steps rooms : List Nat), ts = [op.t, .lst (natT rooms)] ∧ op.wf sizes widths steps z ∧ rooms.length = sizes.length ∧ (∀ n, n ∈ rooms → n ≤ 300) ∧ post (.int (op.room rooms : Nat)) g
theorem Fm.room_le {n : Nat} (h : n ≤ 300) (f : Fm) : f.room n ≤ 1048576 := by
  cases f with
  | count =>
    show 1 + n ≤ 1048576
    omega
  | tot w e =>
    show (if w = "sum" then 2 ^ (if 20 < n then 20 else n) else 1 + n) ≤ 1048576
    by_cases hw : w = "sum"
    · rw [if_pos hw]
      refine Nat.le_trans (Nat.pow_le_pow_right (by decide) (?_ : (if 20 < n then 20 else n) ≤ 20)) (by decide)
      split <;> omega
    · rw [if_neg hw]
      omega
theorem Fm.room_sum {n : Nat} {w : Str} {e : X} (h : w = "sum") : (1 : Int) * 2 ^ (if (20 : Int) < (n : Int) then 20 else (n : Int)).toNat = ((Fm.tot w e).room n : Nat) := by
  have e1 : (if (20 : Int) < (n : Int) then 20 else (n : Int)).toNat = (if 20 < n then 20 else n) := by split <;> split <;> omega
  have e2 : (Fm.tot w e).room n = 2 ^ (if 20 < n then 20 else n) := if_pos h
  rw [e1, e2, Int.one_mul]
  norm_cast
theorem Fm.room_not {n : Nat} {w : Str} {e : X} (h : ¬ w = "sum") : (1 : Int) + (n : Int) = ((Fm.tot w e).room n : Nat) := by
  have e2 : (Fm.tot w e).room n = 1 + n := if_neg h
  rw [e2, Int.natCast_add] <;> rfl
theorem Fm.room_c {n : Nat} (h : n ≤ 300) (f : Fm) (i : Int) : CMul i (f.room n : Nat) := by
  have := f.room_le h
  exact .inr (by omega)
theorem fold_snoc {α : Type} {f : Nat → α → Nat} {b : Nat} {ts : List α} {n : Nat} {x : α} (h : ts[n]? = some x) : (ts.take (n + 1)).foldl f b = f ((ts.take n).foldl f b) x := by
  rw [List.take_add_one, h, List.foldl_append] <;> rfl
theorem map_get {α : Type} {f : α → T} {ts : List α} {n : Nat} {x : T} (h : (ts.map f)[n]? = some x) : ∃ y, ts[n]? = some y ∧ x = f y := by
  rw [List.getElem?_map] at h
  obtain ⟨y, h1, h2⟩ := Option.map_eq_some_iff.mp h
  exact ⟨y, h1, h2.symm⟩
/-! plans -/
def PlanOk (widths steps : List Nat) (ops : List Op) (sizes : List Nat) : Prop := ops.length = sizes.length ∧ Sz sizes ∧ ∀ (i : Nat) (op : Op) (z : Nat), ops[i]? = some op → sizes[i]? = some z → op.wf (sizes.take i) widths steps z
theorem PlanOk.nil {widths steps : List Nat} : PlanOk widths steps [] [] := ⟨rfl, fun n h => (List.not_mem_nil h).elim, fun i op z h => by simp at h⟩
theorem getD_of {ns : List Nat} (h : Sz ns) {i z : Nat} (hi : i < ns.length) (e : z = ns.getD i 0) : 1 ≤ z ∧ z ≤ 4 := e ▸ Sz.get h hi
theorem Op.wf_z {sizes widths steps : List Nat} (h1 : Sz sizes) (h2 : Sz widths) (h3 : Sz steps) {op : Op} {z : Nat} (h : op.wf sizes widths steps z) : 1 ≤ z ∧ z ≤ 4 := by
  cases op with
  | table i => exact getD_of h2 h.1 h.2
  | step i => exact getD_of h3 h.1 h.2
  | filter e q => exact getD_of h1 h.1 h.2.2
  | map es q =>
    obtain ⟨_, _, a, b, rfl⟩ := h
    omega
  | group ks ts q =>
    obtain ⟨_, _, _, a, b, c, rfl⟩ := h
    omega
  | join e q r =>
    obtain ⟨a, b, _, c, rfl⟩ := h
    have := Sz.get h1 a
    omega
  | anti e q r => exact getD_of h1 h.1 h.2.2.2
  | union q r => exact getD_of h1 h.1 h.2.2.2
  | minus q r => exact getD_of h1 h.1 h.2.2.2
theorem PlanOk.snoc {widths steps : List Nat} {ops : List Op} {sizes : List Nat} {op : Op} {z : Nat} (h : PlanOk widths steps ops sizes) (h2 : Sz widths) (h3 : Sz steps) (ho : op.wf sizes widths steps z) : PlanOk widths steps (ops ++ [op]) (sizes ++ [z]) := by
  obtain ⟨e, s, w⟩ := h
  refine ⟨by simp [e], fun n hn => ?_, fun i o y h4 h5 => ?_⟩
  · rcases List.mem_append.mp hn with hn | hn
    · exact s n hn
    · cases List.mem_singleton.mp hn
      exact Op.wf_z s h2 h3 ho
  · by_cases hi : i < sizes.length
    · rw [List.getElem?_append_left (by omega)] at h4
      rw [List.getElem?_append_left hi] at h5
      rw [List.take_append_of_le_length (by omega)]
      exact w i o y h4 h5
    · have hl : i < (ops ++ [op]).length := (List.getElem?_eq_some_iff.mp h4).1
      have hi2 : i = sizes.length := by simp at hl; omega
      subst hi2
      rw [List.getElem?_append_right (Nat.le_refl _)] at h5
      rw [← e, List.getElem?_append_right (Nat.le_refl _)] at h4
      simp at h4 h5
      subst h4 h5
      simpa using ho
def p_plan (R : Rs) (a : Addr) : DSp R := fun ts g post => ∃ (widths steps : List Nat) (m : Nat), ts = [.raw (.ref a), .lst (natT widths), .lst (natT steps), .int (m : Int)] ∧ (Sz widths ∧ Sz steps ∧ widths ≠ [] ∧ widths.length ≤ 100 ∧ steps.length ≤ 100 ∧ 1 ≤ m ∧ m ≤ 7) ∧
  ∀ (ops : List Op) (sizes : List Nat) (z : Nat), PlanOk widths steps ops sizes → 1 ≤ ops.length ∧ ops.length ≤ 7 → 1 ≤ z ∧ z ≤ 4 → post (.tup [.lst (ops.map Op.t), .int (z : Int)]) g
end Zc
/-! Zq: what plans use, which of them fall. -/
namespace Zc
open PySem L2
theorem str_ok {w : Str} {ws : List Str} (h : w ∈ ws) (hw : (ws.all fun x => (T.str x).ok) = true) : (T.str w).ok = true := List.all_eq_true.mp hw w h
theorem cell_ok {t : T} (h : CellT t) : t.ok = true ∧ t.dep = 0 := by
  rcases h with rfl | ⟨i, _, rfl⟩ | rfl | rfl
  · exact ⟨rfl, rfl⟩
  · exact ⟨rfl, rfl⟩
  · exact ⟨by decide +kernel, rfl⟩
  · exact ⟨by decide +kernel, rfl⟩
theorem tup_ok {ts : List T} (h : oks ts = true) : (T.tup ts).ok = true := h
theorem oks_c {t : T} {ts : List T} (h : t.ok = true) (hs : oks ts = true) : oks (t :: ts) = true := by
  show (t.ok && oks ts) = true
  rw [h, hs] <;> rfl
theorem X.okd {n : Nat} : ∀ {d : Nat} {x : X}, x.wf n d → x.t.ok = true ∧ x.t.dep ≤ d + 1
  | d, .const t, h => by
    have hc : CellT t := by cases d <;> exact h
    obtain ⟨h1, h2⟩ := cell_ok hc
    refine ⟨oks_c (by decide +kernel) (oks_c h1 rfl), ?_⟩
    show max 0 (max t.dep 0) + 1 ≤ d + 1
    omega
  | d, .col i, h => by
    refine ⟨oks_c (by decide +kernel) rfl, ?_⟩
    show max 0 (max 0 0) + 1 ≤ d + 1
    omega
  | 0, .un w e, h => h.elim
  | 0, .bin w a b, h => h.elim
  | 0, .cho c a b, h => h.elim
  | d + 1, .un w e, h => by
    obtain ⟨h1, h2⟩ := h
    obtain ⟨o, l⟩ := X.okd h2
    refine ⟨oks_c (str_ok h1 (by decide +kernel)) (oks_c o rfl), ?_⟩
    show max 0 (max e.t.dep 0) + 1 ≤ d + 1 + 1
    omega
  | d + 1, .bin w a b, h => by
    obtain ⟨h1, h2, h3⟩ := h
    obtain ⟨o, l⟩ := X.okd h2
    obtain ⟨o', l'⟩ := X.okd h3
    refine ⟨oks_c (str_ok h1 (by decide +kernel)) (oks_c o (oks_c o' rfl)), ?_⟩
    show max 0 (max a.t.dep (max b.t.dep 0)) + 1 ≤ d + 1 + 1
    omega
  | d + 1, .cho c a b, h => by
    obtain ⟨h1, h2, h3⟩ := h
    obtain ⟨o1, l1⟩ := X.okd h1
    obtain ⟨o, l⟩ := X.okd h2
    obtain ⟨o', l'⟩ := X.okd h3
    refine ⟨oks_c (by decide +kernel) (oks_c o1 (oks_c o (oks_c o' rfl))), ?_⟩
    show max 0 (max c.t.dep (max a.t.dep (max b.t.dep 0))) + 1 ≤ d + 1 + 1
    omega
theorem lst_ok {d : Nat} : ∀ {ts : List T}, (∀ t, t ∈ ts → t.ok = true ∧ t.dep ≤ d) → (T.lst ts).ok = true ∧ (T.lst ts).dep ≤ d + 1
  | [], _ => ⟨rfl, by show 0 + 1 ≤ d + 1; omega⟩
  | t :: ts, h => by
    obtain ⟨h1, h2⟩ := h t List.mem_cons_self
    obtain ⟨h3, h4⟩ := lst_ok fun t ht => h t (List.mem_cons_of_mem _ ht)
    refine ⟨oks_c h1 h3, ?_⟩
    have h4 : deps ts + 1 ≤ d + 1 := h4
    show max t.dep (deps ts) + 1 ≤ d + 1
    omega
theorem xs_ok {n d : Nat} {xs : List X} (h : ∀ x, x ∈ xs → x.wf n d) : (T.lst (xs.map X.t)).ok = true ∧ (T.lst (xs.map X.t)).dep ≤ d + 2 := lst_ok fun t ht => by
  obtain ⟨x, hx, rfl⟩ := List.mem_map.mp ht
  exact X.okd (h x hx)
theorem Fm.okd {n : Nat} {x : Fm} (h : x.wf n) : x.t.ok = true ∧ x.t.dep ≤ 3 := by
  cases x with
  | count => exact ⟨by decide +kernel, by decide +kernel⟩
  | tot w e =>
    obtain ⟨h1, h2⟩ := h
    obtain ⟨o, l⟩ := X.okd h2
    refine ⟨oks_c (str_ok h1 (by decide +kernel)) (oks_c o rfl), ?_⟩
    show max 0 (max e.t.dep 0) + 1 ≤ 3
    omega
theorem fs_ok {n : Nat} {xs : List Fm} (h : ∀ x, x ∈ xs → x.wf n) : (T.lst (xs.map Fm.t)).ok = true ∧ (T.lst (xs.map Fm.t)).dep ≤ 4 := lst_ok fun t ht => by
  obtain ⟨x, hx, rfl⟩ := List.mem_map.mp ht
  exact Fm.okd (h x hx)
/-! ### falling -/
def Op.falls (done steps : List Bool) : Op → Bool
  | .table _ => true
  | .step i => steps.getD i false
  | .filter _ q => done.getD q false
  | .map _ q => done.getD q false
  | .group ks ts q => decide (0 < ks.length) && (decide (ts.length = 0) && done.getD q false)
  | .join _ q r => done.getD q false && done.getD r false
  | .anti _ _ _ => false
  | .union q r => done.getD q false && done.getD r false
  | .minus _ _ => false
abbrev blT (bs : List Bool) : List T := bs.map T.bl
theorem ixB_i {bs : List Bool} {i : Nat} {p : T → Prop} (h : i < bs.length) (k : p (.bl (bs.getD i false))) : ∃ t, atI (bs.map T.bl) (i : Int) = some t ∧ p t := ⟨_, atI_bl h, k⟩
def p_falls (R : Rs) : DSp R := fun ts g post => ∃ (op : Op) (z : Nat) (sizes widths ws : List Nat) (done steps : List Bool), ts = [op.t, .lst (done.map T.bl), .lst (steps.map T.bl)] ∧ op.wf sizes widths ws z ∧ sizes.length = done.length ∧ ws.length = steps.length ∧ post (.bl (op.falls done steps)) g
def doneOf (steps : List Bool) (ops : List Op) : List Bool := ops.foldl (fun done op => done ++ [op.falls done steps]) []
def fallsAll (pls : List (List Op)) : List Bool := pls.foldl (fun steps ops => steps ++ [(doneOf steps ops).all id]) []
theorem foldl_len {α : Type} {f : List Bool → α → Bool} : ∀ (ts : List α) (b : List Bool), (ts.foldl (fun d x => d ++ [f d x]) b).length = b.length + ts.length
  | [], b => by simp
  | t :: ts, b => by
    rw [List.foldl_cons, foldl_len ts]
    simp
    omega
theorem fold_snoc' {α : Type} {f : List Bool → α → Bool} {b : List Bool} {ts : List α} {n : Nat} {x : α} (h : ts[n]? = some x) : (ts.take (n + 1)).foldl (fun d x => d ++ [f d x]) b = (ts.take n).foldl (fun d x => d ++ [f d x]) b ++ [f ((ts.take n).foldl (fun d x => d ++ [f d x]) b) x] := by
  rw [List.take_add_one, h, List.foldl_append] <;> rfl
theorem doneOf_snoc {steps : List Bool} {ops : List Op} {n : Nat} {op : Op} (h : ops[n]? = some op) : doneOf steps (ops.take (n + 1)) = doneOf steps (ops.take n) ++ [op.falls (doneOf steps (ops.take n)) steps] := by
  unfold doneOf
  rw [List.take_add_one, h, List.foldl_append] <;> rfl
theorem fallsAll_snoc {pls : List (List Op)} {n : Nat} {ops : List Op} (h : pls[n]? = some ops) : fallsAll (pls.take (n + 1)) = fallsAll (pls.take n) ++ [(doneOf (fallsAll (pls.take n)) ops).all id] := by
  unfold fallsAll
  rw [List.take_add_one, h, List.foldl_append] <;> rfl
theorem fallsAll_app {pls : List (List Op)} {ops : List Op} : fallsAll (pls ++ [ops]) = fallsAll pls ++ [(doneOf (fallsAll pls) ops).all id] := by
  unfold fallsAll
  rw [List.foldl_append] <;> rfl
theorem doneOf_len {steps : List Bool} {ops : List Op} : (doneOf steps ops).length = ops.length := (foldl_len (f := fun done (op : Op) => op.falls done steps) ops []).trans (Nat.zero_add _)
theorem fallsAll_len {pls : List (List Op)} : (fallsAll pls).length = pls.length := (foldl_len (f := fun steps ops => (doneOf steps ops).all id) pls []).trans (Nat.zero_add _)
theorem blT_snoc {bs : List Bool} {b : Bool} : blT (bs ++ [b]) = blT bs ++ [T.bl b] := by simp [blT]
abbrev planT (ops : List Op) : T := .lst (ops.map Op.t)
/-- plans one behind the other, each over the widths of those before -/
def PlansOk (widths : List Nat) (pls : List (List Op)) (zs : List Nat) : Prop := pls.length = zs.length ∧ Sz zs ∧ ∀ (i : Nat) (ops : List Op), pls[i]? = some ops → (∃ sizes, PlanOk widths (zs.take i) ops sizes) ∧ ops.length ≤ 7
theorem PlansOk.nil {widths : List Nat} : PlansOk widths [] [] := ⟨rfl, fun n h => (List.not_mem_nil h).elim, fun i op h => by simp at h⟩
theorem PlansOk.snoc {widths : List Nat} {pls : List (List Op)} {zs sizes : List Nat} {ops : List Op} {z : Nat} (h : PlansOk widths pls zs) (h1 : PlanOk widths zs ops sizes) (h2 : ops.length ≤ 7) (h3 : 1 ≤ z ∧ z ≤ 4) : PlansOk widths (pls ++ [ops]) (zs ++ [z]) := by
  obtain ⟨e, s, w⟩ := h
  refine ⟨by simp [e], fun n hn => ?_, fun i o h4 => ?_⟩
  · rcases List.mem_append.mp hn with hn | hn
    · exact s n hn
    · cases List.mem_singleton.mp hn
      exact h3
  · by_cases hi : i < pls.length
    · rw [List.getElem?_append_left hi] at h4
      rw [List.take_append_of_le_length (by omega)]
      exact w i o h4
    · have hl : i < (pls ++ [ops]).length := (List.getElem?_eq_some_iff.mp h4).1
      have hi2 : i = pls.length := by simp at hl; omega
      subst hi2
      rw [List.getElem?_append_right (Nat.le_refl _)] at h4
      simp at h4
      subst h4
      refine ⟨⟨sizes, ?_⟩, h2⟩
      rw [e]
      simpa using h1
def p_falling (R : Rs) : DSp R := fun ts g post => ∃ (pls : List (List Op)) (widths zs : List Nat), ts = [.lst (pls.map planT)] ∧ PlansOk widths pls zs ∧ pls.length ≤ 3 ∧ post (.lst ((fallsAll pls).map T.bl)) g
/-! ### the same data -/
mutual
/-- numbers and truth values, in lists and tuples, so deep at most -/
def T.plain : Nat → T → Bool
  | _, .int _ => true
  | _, .bl _ => true
  | d + 1, .lst ts => plains d ts && decide (ts.length ≤ 1000)
  | d + 1, .tup ts => plains d ts && decide (ts.length ≤ 1000)
  | _, _ => false
def plains : Nat → List T → Bool
  | _, [] => true
  | d, t :: ts => t.plain d && plains d ts
end
/-! ### uses -/
/-- what is named by the word, in its order -/
def refs (b : Bool) (ops : List Op) : List Int := ops.filterMap fun op => match op with
  | .table i => if b then some (i : Int) else none
  | .step i => if b then none else some (i : Int)
  | _ => none
def wordB (b : Bool) : Str := if b then "table" else "step"
def p_uses (R : Rs) : DSp R := fun ts g post => ∃ ops : List Op, ts = [planT ops] ∧ ops.length ≤ 7 ∧ ∀ as bs : List Int, as.length ≤ 7 → bs.length ≤ 7 → (as.Pairwise (· < ·) ∧ ∀ k, k ∈ as ↔ k ∈ refs true ops) → (bs.Pairwise (· < ·) ∧ ∀ k, k ∈ bs ↔ k ∈ refs false ops) → post (.tup [.lst (as.map .int), .lst (bs.map .int)]) g
def p_named (R : Rs) : DSp R := fun ts g post => ∃ (ops : List Op) (b : Bool), ts = [planT ops, .str (wordB b)] ∧ ops.length ≤ 7 ∧ ∀ as : List Int, (as.Pairwise (· < ·) ∧ ∀ k, k ∈ as ↔ k ∈ refs b ops) → post (.lst (as.map .int)) g
theorem plains_int {d : Nat} : ∀ ns : List Int, plains d (ns.map .int) = true
  | [] => by cases d <;> rfl
  | n :: ns => by
    show ((T.int n).plain d && plains d (ns.map .int)) = true
    rw [plains_int ns]
    cases d <;> rfl
theorem plains_bl {d : Nat} : ∀ ns : List Bool, plains d (ns.map .bl) = true
  | [] => by cases d <;> rfl
  | n :: ns => by
    show ((T.bl n).plain d && plains d (ns.map .bl)) = true
    rw [plains_bl ns]
    cases d <;> rfl
theorem plain_ints {d : Nat} {ns : List Int} (h : ns.length ≤ 7) : (T.lst (ns.map .int)).plain (d + 1) = true := by
  show (plains d (ns.map .int) && decide ((ns.map T.int).length ≤ 1000)) = true
  rw [plains_int, List.length_map, decide_eq_true (by omega)] <;> rfl
theorem plain_bls {d : Nat} {ns : List Bool} (h : ns.length ≤ 7) : (T.lst (ns.map .bl)).plain (d + 1) = true := by
  show (plains d (ns.map .bl) && decide ((ns.map T.bl).length ≤ 1000)) = true
  rw [plains_bl, List.length_map, decide_eq_true (by omega)] <;> rfl
theorem plain_two {a b : T} {d : Nat} (h : a.plain d = true) (h' : b.plain d = true) : (T.tup [a, b]).plain (d + 1) = true := by
  show ((a.plain d && (b.plain d && plains d [])) && decide _) = true
  rw [h, h']
  cases d <;> rfl
theorem asc_unique : ∀ {xs ys : List Int}, xs.Pairwise (· < ·) → ys.Pairwise (· < ·) → (∀ k, k ∈ xs ↔ k ∈ ys) → xs = ys
  | [], [], _, _, _ => rfl
  | [], y :: ys, _, _, h => absurd ((h y).mpr List.mem_cons_self) List.not_mem_nil
  | x :: xs, [], _, _, h => absurd ((h x).mp List.mem_cons_self) List.not_mem_nil
  | x :: xs, y :: ys, p, q, h => by
    obtain ⟨p1, p2⟩ := List.pairwise_cons.mp p
    obtain ⟨q1, q2⟩ := List.pairwise_cons.mp q
    have e : x = y := by
      rcases List.mem_cons.mp ((h x).mp List.mem_cons_self) with e | m
      · exact e
      · rcases List.mem_cons.mp ((h y).mpr List.mem_cons_self) with e | m'
        · exact e.symm
        · have := q1 x m
          have := p1 y m'
          omega
    subst e
    congr 1
    refine asc_unique p2 q2 fun k => ?_
    constructor
    · intro hk
      rcases List.mem_cons.mp ((h k).mp (List.mem_cons_of_mem _ hk)) with e | m
      · have := p1 k hk
        omega
      · exact m
    · intro hk
      rcases List.mem_cons.mp ((h k).mpr (List.mem_cons_of_mem _ hk)) with e | m
      · have := q1 k hk
        omega
      · exact m
theorem asc_of {xs ys : List Int} (p : xs.Perm ys) (s : xs.Pairwise (· ≤ ·)) (n : ys.Nodup) : xs.Pairwise (· < ·) := by
  have n2 : xs.Nodup := p.nodup_iff.mpr n
  refine (List.pairwise_and_iff.mpr ⟨s, n2⟩).imp fun h => ?_
  obtain ⟨h1, h2⟩ := h
  omega
/-- the keys of a dict that is filled -/
theorem putT_keys {kvs : List (Key × T)} {ns : List Int} {k : Int} {v : T} (h : kvs.map (·.1) = ns.map Sum.inl) : ((putT kvs (.inl k) v).map (·.1) = (if k ∈ ns then ns else ns ++ [k]).map Sum.inl) := by
  have e : (kvs.any fun kv => decide (kv.1 = Sum.inl k)) = decide (k ∈ ns) := by
    have : (kvs.any fun kv => decide (kv.1 = Sum.inl k)) = ((kvs.map (·.1)).any fun x => decide (x = (Sum.inl k : Key))) := by
      rw [List.any_map] <;> rfl
    rw [this, h, List.any_map]
    by_cases m : k ∈ ns
    · rw [decide_eq_true m]
      exact List.any_eq_true.mpr ⟨k, m, decide_eq_true rfl⟩
    · rw [decide_eq_false m]
      refine List.any_eq_false.mpr fun x hx => ?_
      intro hd
      have := of_decide_eq_true hd
      injection this with this
      exact m (this ▸ hx)
  unfold putT
  rw [e]
  by_cases m : k ∈ ns
  · rw [if_pos (decide_eq_true m), if_pos m, ← h, List.map_map]
    refine List.map_congr_left fun kv _ => ?_
    show (if kv.1 = Sum.inl k then (kv.1, v) else kv).1 = kv.1
    split <;> rfl
  · rw [if_neg (by simp [m]), if_neg m, List.map_append, h, List.map_append] <;> rfl
theorem atI_0 {x : T} {xs : List T} : atI (x :: xs) 0 = some x := by
  unfold atI ixN
  rw [if_pos (by decide), if_pos (by rw [List.length_cons]; omega)]
  rfl
theorem atI_1 {x y : T} {xs : List T} : atI (x :: y :: xs) 1 = some y := by
  unfold atI ixN
  rw [if_pos (by decide), if_pos (by rw [List.length_cons, List.length_cons]; omega)]
  rfl
theorem Op.word (b : Bool) (op : Op) : ∃ (w : Str) (a : T) (rest : List T), op.t = .tup (.str w :: a :: rest) ∧ ((w = wordB b ∧ ∃ i : Int, a = .int i ∧ refs b [op] = [i]) ∨ (¬ w = wordB b ∧ refs b [op] = [])) := by
  cases op <;> cases b
  case table.true i => exact ⟨_, _, _, rfl, .inl ⟨rfl, _, rfl, rfl⟩⟩
  case step.false i => exact ⟨_, _, _, rfl, .inl ⟨rfl, _, rfl, rfl⟩⟩
  all_goals exact ⟨_, _, _, rfl, .inr ⟨by decide +kernel, rfl⟩⟩
theorem refs_take {b : Bool} {ops : List Op} {n : Nat} {op : Op} (h : ops[n]? = some op) : refs b (ops.take (n + 1)) = refs b (ops.take n) ++ refs b [op] := by
  rw [List.take_add_one, h]
  exact List.filterMap_append
theorem refs_le {b : Bool} {ops : List Op} : (refs b ops).length ≤ ops.length := List.length_filterMap_le ..
section
variable {K : PySem.W.Frag} {R : Rs} {B : Bs R} {g : R.G} {es : List Ent} {post : T → R.G → List Ent → Prop}
theorem set_bind {i : Nat} {x : T} : es.set i (.dat x) = (wipeE es [i]).set i (.dat x) := by
  show es.set i (.dat x) = (es.set i .any).set i (.dat x)
  rw [List.set_set]
theorem set_noOwn {i : Nat} {x : T} : NoOwn [i] (es.set i (.dat x)) := by
  intro j e hj hje
  cases (List.mem_singleton.mp hj)
  rcases set_get hje with ⟨_, rfl, _⟩ | ⟨ne, _⟩
  · rfl
  · exact absurd rfl ne
/-- {operation[1]: True for operation in plan if operation[0] == word} -/
theorem we_dcRefs {i : Nat} {b : Bool} {ops : List Op} {u : V} {t : T} (h0 : es[0]? = some (.dat (planT ops))) (h7 : ops.length ≤ 7) (hi : i < es.length) (no : NoOwn [i] es) (hu : ∀ F, Rep K F u t)
    (k : ∀ (ns : List Int) (acc : List (Key × T)), ns.Nodup → ns.length ≤ ops.length → (∀ k, k ∈ ns ↔ k ∈ refs b ops) → acc.map (·.1) = ns.map Sum.inl → post (.dct acc) g es) :
    wE K R B (tDc (iList K (tVar 0)) (gName i) (tTest (tOp rEq (tOp (rIx K) (tVar i) (tC (.int 0))) (tC (.str (wordB b))))) (tOp (rIx K) (tVar i) (tC (.int 1))) (tC u) [i]) g es post := by
  refine we_dc (tgt_name i [i] (List.mem_singleton.mpr rfl)) (wi_list (we_var h0 ⟨_, rfl, no, fun n acc g2 => g2 = g ∧ ∃ ns : List Int, ns.Nodup ∧ (∀ k, k ∈ ns ↔ k ∈ refs b (ops.take n)) ∧ ns.length ≤ n ∧ acc.map (·.1) = ns.map Sum.inl,
    ⟨rfl, [], .nil, fun _ => Iff.rfl, Nat.le_refl _, rfl⟩, ?_, ?_⟩))
  · rintro n x acc g2 hx ⟨rfl, ns, nd, hm, hl, hk⟩
    obtain ⟨op, hop, rfl⟩ := map_get hx
    have hn : n < ops.length := (List.getElem?_eq_some_iff.mp hop).1
    have rt := refs_take (b := b) hop
    obtain ⟨w, a, rest, e, hw⟩ := Op.word b op
    rw [e]
    have at0 := (List.getElem?_set_self hi : (es.set i (Ent.dat (.tup (.str w :: a :: rest))))[i]? = _)
    refine ⟨_, set_bind, set_noOwn, wt_test (we_op (we_op (we_var at0 (we_int (wr_ixT ⟨_, atI_0, we_str (wr_eqS ⟨_, rfl, rfl, ?_⟩)⟩)))))⟩
    rcases hw with ⟨e1, j, rfl, e2⟩ | ⟨e1, e2⟩
    · refine w_iteP e1 (we_op (we_var at0 (we_int (wr_ixT ⟨_, atI_1, rfl, we_c hu ⟨rfl, Sum.inl j, rfl, ?_, rfl, if j ∈ ns then ns else ns ++ [j], ?_, ?_, ?_, putT_keys hk⟩⟩))))
      · have : acc.length = ns.length := by
          have := congrArg List.length hk
          simpa using this
        rw [this]
        exact Nat.lt_of_le_of_lt (by omega : ns.length ≤ 7) (by decide)
      · split
        · exact nd
        · rename_i hj
          exact List.nodup_append.mpr ⟨nd, List.pairwise_singleton _ j, fun x hx y hy => by
            cases List.mem_singleton.mp hy
            rintro rfl
            exact hj hx⟩
      · intro k
        rw [rt, e2, List.mem_append, List.mem_singleton, ← hm k]
        split
        · rename_i hj
          exact ⟨.inl, fun h => h.elim id fun h => h ▸ hj⟩
        · rw [List.mem_append, List.mem_singleton]
      · split
        · omega
        · rw [List.length_append]
          simp
          omega
    · refine w_iteM e1 ⟨rfl, ns, nd, fun k => ?_, by omega, hk⟩
      rw [rt, e2, List.append_nil]
      exact hm k
  · rintro acc g2 ⟨rfl, ns, nd, hm, hl, hk⟩
    rw [List.length_map, List.take_length] at hm
    rw [List.length_map] at hl
    exact k ns acc nd hl hm hk
/-- [operation[1] for operation in plan if operation[0] == word] -/
theorem we_lcRefs {i : Nat} {b : Bool} {ops : List Op} (h0 : es[0]? = some (.dat (planT ops))) (h1 : (es.set i .any)[1]? = some (.dat (.str (wordB b)))) (h2 : i ≠ 1) (h7 : ops.length ≤ 7) (hi : i < es.length) (no : NoOwn [i] es)
    (k : post (.lst ((refs b ops).map .int)) g es) :
    wE K R B (tLc (iList K (tVar 0)) (gName i) (tTest (tOp rEq (tOp (rIx K) (tVar i) (tC (.int 0))) (tVar 1))) (tOp (rIx K) (tVar i) (tC (.int 1))) [i]) g es post := by
  refine we_lc (tgt_name i [i] (List.mem_singleton.mpr rfl)) (wi_list (we_var h0 ⟨_, rfl, no, fun n acc g2 => g2 = g ∧ acc = (refs b (ops.take n)).map .int, ⟨rfl, rfl⟩, ?_, ?_⟩))
  · rintro n x acc g2 hx ⟨rfl, rfl⟩
    obtain ⟨op, hop, rfl⟩ := map_get hx
    have hn : n < ops.length := (List.getElem?_eq_some_iff.mp hop).1
    have rt := refs_take (b := b) hop
    obtain ⟨w, a, rest, e, hw⟩ := Op.word b op
    rw [e]
    have at0 := (List.getElem?_set_self hi : (es.set i (Ent.dat (.tup (.str w :: a :: rest))))[i]? = _)
    have at1 : (es.set i (Ent.dat (.tup (.str w :: a :: rest))))[1]? = some (.dat (.str (wordB b))) := by
      rw [List.getElem?_set_ne h2]
      rw [List.getElem?_set_ne h2] at h1
      exact h1
    refine ⟨_, set_bind, set_noOwn, wt_test (we_op (we_op (we_var at0 (we_int (wr_ixT ⟨_, atI_0, we_var at1 (wr_eqS ⟨_, rfl, rfl, ?_⟩)⟩)))))⟩
    rcases hw with ⟨e1, j, rfl, e2⟩ | ⟨e1, e2⟩
    · refine w_iteP e1 (we_op (we_var at0 (we_int (wr_ixT ⟨_, atI_1, rfl, ?_, rfl, ?_⟩))))
      · rw [List.length_map]
        refine Nat.lt_of_le_of_lt (Nat.le_trans refs_le ?_ : _ ≤ 7) (by decide)
        rw [List.length_take]
        omega
      · rw [rt, e2, List.map_append] <;> rfl
    · refine w_iteM e1 ⟨rfl, ?_⟩
      rw [rt, e2, List.append_nil]
  · rintro acc g2 ⟨rfl, rfl⟩
    rw [List.length_map, List.take_length]
    exact k
end
theorem two_widths {r r' : Nat} (h : (r : Int) < 2) (h' : (r' : Int) < 2) : ∃ widths : List Nat, Sz widths ∧ widths.length = 2 ∧ T.lst [.int (1 + (r : Int)), .int (1 + (r' : Int))] = .lst (natT widths) := by
  refine ⟨[1 + r, 1 + r'], fun n hn => ?_, rfl, rfl⟩
  rcases List.mem_cons.mp hn with rfl | hn
  · omega
  · cases List.mem_singleton.mp hn
    omega
/-! ### the same data, promised -/
theorem ix_at {ts : List T} {k : Nat} (h : (k : Int) < ts.length) : ∃ t, atI ts (k : Int) = some t ∧ t ∈ ts := by
  have hn : k < ts.length := by omega
  refine ⟨ts[k], ?_, List.getElem_mem hn⟩
  unfold atI
  rw [ixN_nat hn]
  simp [hn]
theorem all_bl {ys : List T} (h : ∀ y, y ∈ ys → y = .bl true) : ys = (List.replicate ys.length true).map T.bl := by
  rw [List.map_replicate]
  exact List.eq_replicate_iff.mpr ⟨rfl, h⟩
theorem all_rep {n : Nat} : (List.replicate n true).all id = true := by simp
theorem plains_mem {d : Nat} : ∀ {ts : List T} {t : T}, plains d ts = true → t ∈ ts → t.plain d = true
  | t :: ts, x, h, hx => by
    obtain ⟨h1, h2⟩ := (Bool.and_eq_true _ _).mp (show (t.plain d && plains d ts) = true from h)
    rcases List.mem_cons.mp hx with rfl | hx
    · exact h1
    · exact plains_mem h2 hx
def p_same (R : Rs) (d : Nat) : DSp R := fun ts g post => ∃ t : T, ts = [t, t] ∧ t.plain d = true ∧ post (.bl true) g
end Zc
namespace L96
open PySem L2 Zc
def topS (i : Nat) : Stmt := PySem.Challenge.pw_lineworks_k96_uses_and_falling_of_any_pl.main.body.getD i (.Pass ⟨0, 0, 0, 0⟩)
set_option hygiene false
local macro_rules | `(tactic| wtm_at "n") => `(tactic| ((with_reducible refine' p_next_i ?_ ?_ ?_); (first | decide | omega | (split <;> omega)); (first | decide | omega | (split <;> omega)); intro r h1))
local macro_rules | `(tactic| wtm_at "n2") => `(tactic| first
  | wtm_at "n"
  | ((with_reducible refine' p_cell_i ?_); intro c hc)
  | ((with_reducible refine' p_expr_i ?_ ?_ ?_ ?_); (first | decide | omega); (first | decide | omega); (first | rfl | omega); intro x hx)
  | ((with_reducible refine' ixT_i ?_ ?_); (first | assumption | omega))
  | ((with_reducible refine' ixB_i ?_ ?_); (first | assumption | omega))
  | ((with_reducible refine' ixT_0 ?_ ?_); (first | assumption | omega))
  | ((with_reducible refine' p_form_i ?_ ?_ ?_); (first | decide | omega); (first | decide | omega); intro x hx))
set_option hygiene true
local macro_rules | `(tactic| wtm_at "zE") => `(tactic| ((with_reducible show wE _ _ _ _ _ _ _); first
  | ((with_reducible refine' we_var ?e ?h); (case e => exact rfl))
  | with_reducible refine' we_int ?_
  | with_reducible refine' we_str ?_
  | ((with_reducible refine' we_ixBor ?e ?h); (case e => exact rfl); intro B1)
  | ((with_reducible refine' we_ixOwn ?e ?h); (case e => exact rfl))
  | ((with_reducible refine' we_cbBor ?e ?h); (case e => exact rfl); intro B1)
  | ((with_reducible refine' we_cbOwn ?e ?h); (case e => exact rfl); intro B1)
  | with_reducible refine' we_op ?_
  | with_reducible refine' we_call ?_
  | with_reducible refine' we_tup ?_
  | with_reducible refine' we_bl ?_
  | with_reducible refine' we_non ?_
  | with_reducible refine' we_isi ?_
  | with_reducible refine' we_isiT ?_
  | with_reducible refine' we_cb ?_
  | with_reducible refine' we_lst ?_
  | with_reducible refine' we_if ?_
  | with_reducible refine' we_notT ?_
  | with_reducible refine' we_andT ?_
  | with_reducible refine' we_orT ?_
  | with_reducible refine' we_un ?_
  | ((with_reducible refine' we_own ?e ?h); (case e => exact rfl))
  | ((with_reducible refine' we_append ?e ?h); (case e => exact rfl))))
local macro_rules | `(tactic| wtm_at "zA") => `(tactic| first
  | with_reducible refine' wa_nil ?_
  | with_reducible refine' wa_cons ?_
  | with_reducible refine' wm_nil ?_
  | ((with_reducible refine' wm_bor ?e ?v ?h); (case e => exact rfl); (case v => exact rfl))
  | with_reducible refine' wm_dat ?_
  | with_reducible refine' wm_dtb ?_
  | with_reducible refine' wu_int ?_)
local macro_rules | `(tactic| wtm_at "zT") => `(tactic| ((with_reducible show wT _ _ _ _ _ _ _); first
  | with_reducible refine' wt_test ?_
  | with_reducible refine' wt_yes ?_
  | with_reducible refine' wt_and ?_
  | with_reducible refine' wt_or ?_
  | with_reducible refine' wt_not ?_
  | ((with_reducible refine' wt_truBor ?e ?h); (case e => exact rfl); intro B1)
  | with_reducible refine' wt_tru ?_))
local macro_rules | `(tactic| wtm_at "zR") => `(tactic| ((with_reducible show wR _ _ _ _ _ _); first
  | with_reducible refine' wr_int0 ?_
  | with_reducible refine' wr_bl0 ?_
  | with_reducible refine' wr_intC (cmul_l (by omega)) ?_
  | with_reducible refine' wr_intC (cmul_r (by omega)) ?_
  | with_reducible refine' wr_eqI ?_
  | with_reducible refine' wr_eqS ?_
  | with_reducible refine' wr_ixT ?_
  | with_reducible refine' wr_ixL ?_
  | with_reducible refine' wr_neI ?_
  | with_reducible refine' wr_neS ?_
  | with_reducible refine' wr_eqB ?_
  | with_reducible refine' wr_neB ?_
  | with_reducible refine' wr_inS2 ?_
  | with_reducible refine' wr_isN ?_
  | with_reducible refine' wr_notN ?_))
local macro_rules | `(tactic| wtm_at "zC") => `(tactic| ((with_reducible show wC _ _ _ _ _); first
  | with_reducible refine' wc_lenL ?_
  | with_reducible refine' wc_lenT ?_
  | with_reducible refine' wc_min2 ?_
  | with_reducible refine' wc_max2 ?_
  | with_reducible refine' wc_intI ?_
  | with_reducible refine' wc_intB ?_
  | with_reducible refine' wc_listL ?_
  | with_reducible refine' wc_listT ?_
  | with_reducible refine' wc_listD ?_
  | with_reducible refine' wc_abs ?_
  | with_reducible refine' wc_all ?_))
local macro_rules | `(tactic| wtm_at "zQ") => `(tactic| ((with_reducible show wQ _ _ _ _ _ _ _ _ _ _); first
  | with_reducible refine' wq_seq ?_
  | with_reducible refine' wq_next ?_
  | with_reducible refine' wq_if ?_
  | with_reducible refine' wq_ret ?_
  | with_reducible refine' wq_setT ?_
  | with_reducible refine' wq_setD ?_
  | with_reducible refine' wq_setL (wa_nil ?_)
  | with_reducible refine' wq_set ?_
  | with_reducible refine' wq_drop ?_
  | with_reducible refine' wq_par ?_
  | with_reducible refine' wq_break ?_
  | with_reducible refine' wq_cont ?_))
local macro_rules | `(tactic| wtm_at "zI") => `(tactic| first
  | with_reducible refine' w_iteT ?_
  | with_reducible refine' w_iteF ?_
  | (with_reducible refine' w_iteEN (fun _ => ?_) (fun _ => ?_))
  | (with_reducible refine' w_iteE (fun _ => ?_) (fun _ => ?_))
  | (refine' w_iteP (by decide +kernel) ?_)
  | (refine' w_iteM (by decide +kernel) ?_)
  | (refine' w_iteBT (by decide +kernel) ?_)
  | (refine' w_iteBF (by decide +kernel) ?_)
  | ((with_reducible refine' w_isNF ?hN ?_); (case hN => rfl))
  | ((with_reducible refine' w_isNT ?hN ?_); (case hN => rfl))
  | ((with_reducible refine' w_isNNF ?hN ?_); (case hN => rfl))
  | ((with_reducible refine' w_isNNT ?hN ?_); (case hN => rfl))
  | (refine' w_iteNP (by decide +kernel) ?_)
  | (refine' w_iteNM (by decide +kernel) ?_)
  | (with_reducible refine' w_iteN (fun _ => ?_) (fun _ => ?_))
  | (with_reducible refine' w_iteD (fun _ => ?_) (fun _ => ?_))
  | (refine' w_ite (fun _ => ?_) (fun _ => ?_)))
local macro_rules | `(tactic| wtm_at "z") => `(tactic| first
  | wtm_at "zE"
  | wtm_at "zR"
  | wtm_at "zA"
  | wtm_at "zT"
  | wtm_at "zQ"
  | wtm_at "zC"
  | wtm_at "n2"
  | (refine' And.intro (show _ ≤ sizeLine from Nat.le_of_ble_eq_true rfl) ?_)
  | (refine' And.intro rfl (And.intro rfl ?_))
  | (with_reducible refine' isi_i rfl (by decide +kernel) ?_)
  | (with_reducible refine' isiT_i rfl (by decide +kernel) (by decide +kernel) ?_)
  | (refine' And.intro (Eq.refl (List.map Ent.thaw _)) ?_)
  | (refine' Exists.intro _ (And.intro rfl ?_))
  | (refine' Exists.intro _ (Exists.intro _ (And.intro rfl (And.intro rfl ?_))))
  | wtm_at "zI")
local macro_rules | `(tactic| wtm_at "zb") => `(tactic| first
  | with_reducible refine' wq_ret (we_bor fun _ => ?_)
  | with_reducible refine' wq_setD ?_
  | with_reducible refine' wq_setL (wa_nil ?_)
  | with_reducible refine' wq_set (we_bor fun _ => ?_)
  | with_reducible refine' wq_if (wt_bor fun _ => ?_)
  | with_reducible refine' wt_test ?_
  | (refine' And.intro rfl (And.intro rfl ?_))
  | (refine' And.intro rfl ?_)
  | wtm_at "z")
section
variable {P : Program} {w : World} {K : PySem.W.Frag} {mg : Str → Option Value} {base : Heap} {R : Rs}
abbrev s_next : Stmt := topS 6
theorem sc_next : FnScope ["draw", "many", "found", "cell"] ["draw", "many"] (defScope s_next) := ⟨rfl, rfl, rfl, by decide +kernel, rfl, by decide +kernel, by decide +kernel⟩
theorem ok_next {a : Addr} (hd : HasDraw R a) {f : Addr} {fd : FuncData} (F : FunD K "_law_next" "_law_next" (defArgs s_next) (defBody s_next) (defScope s_next) [] [] f fd) (T : Bls mg) :
    FnOk P w K mg base CX0 1 f fd ["draw", "many"] (spD K R [false, false] (p_next R a)) := by
  refine F.ok sc_next (spD_len fun ts g post h => ?_) (fun cdv A outer s H vs Q E hr h => ?_)
  · obtain ⟨m, rfl, _⟩ := h
    rfl
  obtain ⟨F0, ts, g, post, i, args, ⟨m, rfl, ⟨m0, m1⟩, hp⟩, cont⟩ := h
  cases args with
  | dat r1 args => cases args with
    | dat r2 args =>
      cases args
      cases r1
      cases r2
      obtain ⟨s, ns, p, c, d, hH, hS, hne, hi⟩ := hd.get g H i.res
      have fin : ∀ (i' c' d' r : Int), 0 ≤ i' → 0 ≤ r → r < m → Q (.int r) (upd H a (.lst [.ref s, .int i', .int c', .int d'])) := fun i' c' d' r h1 h2 h3 => by
        refine cont _ (.int r) g F0 _ ⟨Evl.Ex.refl _, fun _ h => .inl h, fun b o e nm => ?_, fun b e => ?_, fun _ h => .inl h, fun _ h => .inl h⟩ ⟨fun b o e => ?_, i.fm, hd.set g H s p c d i' c' d' i.res hH h1⟩ (.int r) (hp r h2 h3)
        · rw [upd_ne (fun z => nm (by rw [z]; exact hd.m g))]
          exact e
        · by_cases z : b = a
          · subst z
            rw [upd_same]
            intro q
            cases q
          · rw [upd_ne z]
            exact e
        · have z : b ≠ a := fun z => by
            subst z
            rw [i.fm _ (hd.m g)] at e
            cases e
          rw [upd_ne z]
          exact i.ex b o e
      have hS' : ∀ {o : HO}, upd H a o s = some (.lst (ns.map V.int)) := fun {o} => by
        rw [upd_ne (Ne.symm hne)]
        exact hS
      have hc : CDiv c m := ⟨m0, m1⟩
      have nn : ∀ x : Int, 0 ≤ x % m := fun x => Int.emod_nonneg x (by omega)
      have lt : ∀ x : Int, x % m < m := fun x => Int.emod_lt_of_pos x m0
      refine ⟨_, PSs.nox (pss_cons (ps_if (pt_cmpR op_gt (pe_ix ix_seq (pv 0) pe_int (fun _ _ => rfl)) pe_int (nomark _)) (pss_cons (ps_set (i := 2) sc_next.nd rfl (Or.inl rfl) (pe_op op_mod (pe_callTy call_int1 (by rfl) T.int bt_int (pa_cons (pe_ix ix_seq (pv 0) pe_int (fun _ _ => rfl)) pa_nil)) (pv 1))) (pss_cons (ps_asg (pe_op op_fdiv (pe_ix ix_seq (pv 0) pe_int (fun _ _ => rfl)) (pv 1)) (pg_sub (pv 0) pe_int set_list)) (pss_one (ps_ret (pv 2))))) pss_nil) (pss_cons (ps_if (pt_cmpR op_lt (pe_ix ix_seq (pv 0) pe_int (fun _ _ => rfl)) (pe_callB call_len (by rfl) T.len bt_len (pa_cons (pe_ix ix_seq (pv 0) pe_int (fun _ _ => rfl)) pa_nil)) (nomark _)) (pss_cons (ps_set (i := 3) sc_next.nd rfl (Or.inl rfl) (pe_callB call_abs (by rfl) T.abs bt_abs (pa_cons (pe_ix ix_seq (pe_ix ix_seq (pv 0) pe_int (fun _ _ => rfl)) (pe_ix ix_seq (pv 0) pe_int (fun _ _ => rfl)) (fun _ _ => rfl)) pa_nil))) (pss_cons (ps_asg (pe_op op_add (pe_ix ix_seq (pv 0) pe_int (fun _ _ => rfl)) pe_int) (pg_sub (pv 0) pe_int set_list)) (pss_cons (ps_if (pt_cmpR op_ge (pv 3) (pe_op op_pow pe_int pe_int) (nomark _)) (pss_cons (ps_asg (pe_op op_fdiv (pv 3) (pv 1)) (pg_sub (pv 0) pe_int set_list)) (pss_one (ps_ret (pe_op op_mod (pe_callTy call_int1 (by rfl) T.int bt_int (pa_cons (pv 3) pa_nil)) (pv 1))))) pss_nil) (pss_one (ps_asg (pe_op op_mod (pe_callTy call_int1 (by rfl) T.int bt_int (pa_cons (pe_op op_add (pe_op op_add (pe_op op_mul (pe_ix ix_seq (pv 0) pe_int (fun _ _ => rfl)) pe_int) (pv 3)) pe_int) pa_nil)) pe_int) (pg_sub (pv 0) pe_int set_list)))))) (pss_one (ps_asg (pe_op op_mod (pe_callTy call_int1 (by rfl) T.int bt_int (pa_cons (pe_op op_add (pe_op op_mul (pe_ix ix_seq (pv 0) pe_int (fun _ _ => rfl)) pe_int) pe_int) pa_nil)) pe_int) (pg_sub (pv 0) pe_int set_list)))) (pss_one (ps_ret (pe_op op_mod (pe_op op_fdiv (pe_callTy call_int1 (by rfl) T.int bt_int (pa_cons (pe_op op_mod (pe_op op_mul (pe_ix ix_seq (pv 0) pe_int (fun _ _ => rfl)) pe_int) pe_int) pa_nil)) pe_int) (pv 1)))))), ?_⟩
      -- if draw[2] > 0
      refine ⟨_, rfl, .inl ⟨a, _, 2, .int c, rfl, rfl, Evl.sq_of hH, rfl, c, 0, rfl, rfl, _, rfl, ?_⟩⟩
      refine ite2 (fun _ => ?_) (fun _ => ?_)
      · refine ⟨_, rfl, .inl ⟨a, _, 2, .int c, rfl, rfl, Evl.sq_of hH, rfl, .inl ⟨c, rfl, _, rfl, c, m, rfl, rfl, m0, ?_⟩⟩⟩
        refine ⟨_, rfl, .inl ⟨a, _, 2, .int c, rfl, rfl, Evl.sq_of hH, rfl, _, rfl, c, m, rfl, rfl, hc, _, rfl, a, _, 2, 2, rfl, rfl, hH, rfl, ?_⟩⟩
        exact ⟨_, rfl, fin p _ d _ hi (nn c) (lt c)⟩
      -- the last place, from it the answer
      have last : ∀ (σ : L2.St) (i' c' d' : Int) (H1 : Hp), σ[0]? = some (some (.ref a)) → σ[1]? = some (some (.int m)) → 0 ≤ i' → H1 = upd H a (.lst [.ref s, .int i', .int c', .int d']) →
          tRet (tOp (rI (fun _ j => 0 < j) fun i j => .int (i % j)) (tOp (rI CDiv fun i j => .int (i / j)) (tCB (fun xs H Q => (∃ i, xs = [.int i] ∧ Q (.int i) H) ∨ ∃ k, xs = [.bl k] ∧ Q (.int (if k then 1 else 0)) H) (tCons (tOp (rI (fun _ j => 0 < j) fun i j => .int (i % j)) (tOp (rI CMul fun i j => .int (i * j)) (tOp (rIx K) (tVar 0) (tC (.int 3))) (tC (.int 69621))) (tC (.int 2147483629))) tNil)) (tC (.int 7))) (tVar 1)) { nx := fun _ H' => Q .non H', rt := Q } σ H1 := fun σ i' c' d' H1 e0 e1 hi' eH => by
        subst eH
        exact ⟨_, e0, .inl ⟨a, _, 3, .int d', rfl, rfl, Evl.sq_of upd_same, rfl, d', 69621, rfl, rfl, .inr ⟨by decide, by decide⟩, _, 2147483629, rfl, rfl, (show (0 : Int) < 2147483629 by decide), .inl ⟨_, rfl, _, 7, rfl, rfl, ⟨by decide, by decide⟩, _, e1, _, m, rfl, rfl, m0, fin i' c' d' _ hi' (nn _) (lt _)⟩⟩⟩
      refine ⟨_, rfl, .inl ⟨a, _, 1, .int p, rfl, rfl, Evl.sq_of hH, rfl, _, rfl, .inl ⟨a, _, 0, .ref s, rfl, rfl, Evl.sq_of hH, rfl, _, ns.length, rfl, .inl ⟨_, Evl.sq_of hS, by rw [List.length_map]⟩, p, _, rfl, rfl, _, rfl, ?_⟩⟩⟩
      refine ite2 (fun hlt => ?_) (fun _ => ?_)
      · have hlt : p < (ns.length : Int) := of_decide_eq_true hlt
        obtain ⟨n, hn⟩ : ∃ n : Nat, p = (n : Int) := ⟨p.toNat, by omega⟩
        have hat : atI (ns.map V.int) p = some (.int (ns.getD n 0)) := by
          subst hn
          unfold atI ixN
          rw [if_pos hi, if_pos (by rw [List.length_map]; exact hlt)]
          have : n < ns.length := by omega
          simp [this]
        -- cell = abs(draw[0][draw[1]]); draw[1] = draw[1] + 1
        refine ⟨_, rfl, .inl ⟨a, _, 0, .ref s, rfl, rfl, Evl.sq_of hH, rfl, _, rfl, .inl ⟨a, _, 1, .int p, rfl, rfl, Evl.sq_of hH, rfl, .inl ⟨s, _, p, .int (ns.getD n 0), rfl, rfl, Evl.sq_of hS, hat, _, rfl, ?_⟩⟩⟩⟩
        refine ⟨_, rfl, .inl ⟨a, _, 1, .int p, rfl, rfl, Evl.sq_of hH, rfl, p, 1, rfl, rfl, _, rfl, a, _, 1, 1, rfl, rfl, hH, rfl, ?_⟩⟩
        refine ⟨_, rfl, 10, 18, rfl, rfl, ⟨by decide, by decide, by decide⟩, _, _, rfl, rfl, _, rfl, ?_⟩
        refine ite2 (fun _ => ?_) (fun _ => ?_)
        · refine ⟨_, rfl, _, rfl, _, m, rfl, rfl, ⟨m0, m1⟩, _, rfl, a, _, 2, 2, rfl, rfl, upd_same, rfl, ?_⟩
          refine ⟨_, rfl, .inl ⟨_, rfl, _, rfl, _, m, rfl, rfl, m0, ?_⟩⟩
          rw [upd_upd]
          exact fin (p + 1) _ d _ (by omega) (nn _) (lt _)
        · refine ⟨_, rfl, .inl ⟨a, _, 3, .int d, rfl, rfl, Evl.sq_of upd_same, rfl, d, 48271, rfl, rfl, .inr ⟨by decide, by decide⟩, _, rfl, _, _, rfl, rfl, _, 11, rfl, rfl, .inl ⟨_, rfl, _, 2147483647, rfl, rfl, (show (0 : Int) < 2147483647 by decide), _, rfl, a, _, 3, 3, rfl, rfl, upd_same, rfl, ?_⟩⟩⟩
          exact last _ (p + 1) c _ _ rfl rfl (by omega) upd_upd
      · refine ⟨_, rfl, .inl ⟨a, _, 3, .int d, rfl, rfl, Evl.sq_of hH, rfl, d, 48271, rfl, rfl, .inr ⟨by decide, by decide⟩, _, 12345, rfl, rfl, .inl ⟨_, rfl, _, 2147483647, rfl, rfl, (show (0 : Int) < 2147483647 by decide), _, rfl, a, _, 3, 3, rfl, rfl, hH, rfl, ?_⟩⟩⟩
        exact last _ p c _ _ rfl rfl hi rfl

theorem c_next {a : Addr} (hd : HasDraw R a) (D : Dfn K mg "_law_next" s_next) (T : Bls mg) : Cal P w K mg base 1 "_law_next" ["draw", "many"] (spD K R [false, false] (p_next R a)) := by
  obtain ⟨f, fd, F, hm⟩ := D.ex
  exact ⟨f, fd, ok_next hd F T, hm, F.kp, F.bindsN fun _ _ _ _ _ _ us hl => match us, hl with | [_, _], _ => rfl⟩
abbrev s_cell : Stmt := topS 8
abbrev N_cell : List Str := ["draw", "form"]
theorem sc_cell : FnScope ["draw", "form"] ["draw"] (defScope s_cell) := ⟨rfl, rfl, rfl, by decide +kernel, rfl, by decide +kernel, by decide +kernel⟩
theorem c_cell {a : Addr} (D : Dfn K mg "_law_cell" s_cell) (T : Bls mg) (C_law_next : Cal P w K mg base 1 "_law_next" ["draw", "many"] (spD K R [false, false] (p_next R a))) : Cal P w K mg base 2 "_law_cell" ["draw"] (spD K R [false] (p_cell R a)) := by
  obtain ⟨f, fd, F, hm⟩ := D.ex
  refine ⟨f, fd, F.ok sc_cell (spD_len fun ts g post h => ?len) (fun cdv A outer s H vs Q E hr h => ?body), hm, F.kp, F.bindsN fun _ _ _ _ _ _ us hl => match us, hl with | [_], _ => rfl⟩
  case len =>
    obtain ⟨rfl, _⟩ := h
    rfl
  case body =>
    refine ⟨_, PSs.nox (pss_cons (ps_set (i := 1) sc_cell.nd rfl (Or.inl rfl) (pe_cal C_law_next hr (by decide) rfl (pa_cons (pv 0) (pa_cons pe_int pa_nil)))) (pss_cons (ps_if (pt_cmpR op_eq (pv 1) pe_int (nomark _)) (pss_one (ps_ret pe_non)) pss_nil) (pss_one (ps_ret (pe_ifExp (pt_cmpR op_gt (pv 1) pe_int (nomark _)) (pe_ix (ixK (K := K)) pe_str (pe_op op_sub (pv 1) pe_int) (fun _ _ => rfl)) (pe_op op_sub (pv 1) pe_int)))))), wq_enter h (fun ts g post h => ?l2) fun B ts g post hp => ?_⟩
    case l2 =>
      obtain ⟨rfl, _⟩ := h
      exact Nat.le_of_ble_eq_true rfl
    clear h
    obtain ⟨rfl, hp⟩ := hp
    show wQ _ _ _ _ _ [.dat _, .any] _ _ _ _
    try dsimp only [cxOf, Cx.wish, Cx.blk]
    repeat' (wtm_at "z")
    · exact hp _ (.inl rfl)
    · rcases (show r = 5 ∨ r = 6 by omega) with rfl | rfl
      · exact wr_ixS ⟨97, by decide +kernel, by decide +kernel, hp _ (.inr (.inr (.inl rfl)))⟩
      · exact wr_ixS ⟨98, by decide +kernel, by decide +kernel, hp _ (.inr (.inr (.inr rfl)))⟩
    · exact hp _ (.inr (.inl ⟨(r : Int) - 1, by omega, rfl⟩))
abbrev s_expr : Stmt := topS 9
abbrev N_expr : List Str := ["draw", "width", "depth", "form", "word", "first", "second", "words"]
theorem sc_expr : FnScope ["draw", "width", "depth", "form", "word", "first", "second", "words"] ["draw", "width", "depth"] (defScope s_expr) := ⟨rfl, rfl, rfl, by decide +kernel, rfl, by decide +kernel, by decide +kernel⟩
theorem c_expr {a : Addr} (D : Dfn K mg "_law_expression" s_expr) (T : Bls mg) (C_law_next : Cal P w K mg base 1 "_law_next" ["draw", "many"] (spD K R [false, false] (p_next R a))) (C_law_cell : Cal P w K mg base 2 "_law_cell" ["draw"] (spD K R [false] (p_cell R a))) :
    ∀ d : Nat, Cal P w K mg base (d + 3) "_law_expression" ["draw", "width", "depth"] (spD K R [false, false, false] (p_expr R a d)) := by
  obtain ⟨f, fd, F, hm⟩ := D.ex
  intro d
  induction d with
  | zero =>
    have C_law_expression : Cal P w K mg base 0 "_law_expression" ["draw", "width", "depth"] (spD K R [false, false, false] fun _ _ _ => False) :=
      ⟨f, fd, ⟨fun vs H Q E ⟨_, _, _, _, _, _, h, _⟩ => h.elim, fun _ _ _ _ _ _ _ _ _ _ _ _ _ ⟨_, _, _, _, _, _, h, _⟩ => h.elim⟩, hm, F.kp, F.bindsN fun _ _ _ _ _ _ us hl => match us, hl with | [_, _, _], _ => rfl⟩
    refine ⟨f, fd, F.ok sc_expr (spD_len fun ts g post h => ?len) (fun cdv A outer s H vs Q E hr h => ?body), hm, F.kp, F.bindsN fun _ _ _ _ _ _ us hl => match us, hl with | [_, _, _], _ => rfl⟩
    case len =>
      obtain ⟨n, rfl, _⟩ := h
      rfl
    refine ⟨_, PSs.nox (pss_cons (ps_set (i := 3) sc_expr.nd rfl (Or.inl rfl) (pe_cal C_law_next hr (by decide) rfl (pa_cons (pv 0) (pa_cons pe_int pa_nil)))) (pss_cons (ps_if (PW.pt (pw_or (pt_cmpR op_eq (pv 2) pe_int (nomark _)) (pw_or1 (pt_cmpR op_lt (pv 3) pe_int (nomark _))))) (pss_cons (ps_if (PW.pt (pw_or (pt_cmpR op_eq (pv 1) pe_int (nomark _)) (pw_or1 (pt_cmpR op_eq (pe_cal C_law_next hr (by decide) rfl (pa_cons (pv 0) (pa_cons pe_int pa_nil))) pe_int (nomark _))))) (pss_one (ps_ret (pe_tup (pa_cons pe_str (pa_cons (pe_cal C_law_cell hr (by decide) rfl (pa_cons (pv 0) pa_nil)) pa_nil))))) pss_nil) (pss_one (ps_ret (pe_tup (pa_cons pe_str (pa_cons (pe_cal C_law_next hr (by decide) rfl (pa_cons (pv 0) (pa_cons (pv 1) pa_nil))) pa_nil)))))) pss_nil) (pss_cons (ps_if (pt_cmpR op_lt (pv 3) pe_int (nomark _)) (pss_cons (ps_set (i := 4) sc_expr.nd rfl (Or.inl rfl) (pe_ix (ixK (K := K)) (pe_lst (pa_cons pe_str (pa_cons pe_str (pa_cons pe_str (pa_cons pe_str pa_nil))))) (pe_cal C_law_next hr (by decide) rfl (pa_cons (pv 0) (pa_cons pe_int pa_nil))) (fun _ _ => rfl))) (pss_one (ps_ret (pe_tup (pa_cons (pv 4) (pa_cons (pe_cal C_law_expression hr (by decide) rfl (pa_cons (pv 0) (pa_cons (pv 1) (pa_cons (pe_op op_sub (pv 2) pe_int) pa_nil)))) pa_nil)))))) pss_nil) (pss_cons (ps_set (i := 5) sc_expr.nd rfl (Or.inl rfl) (pe_cal C_law_expression hr (by decide) rfl (pa_cons (pv 0) (pa_cons (pv 1) (pa_cons (pe_op op_sub (pv 2) pe_int) pa_nil))))) (pss_cons (ps_set (i := 6) sc_expr.nd rfl (Or.inl rfl) (pe_cal C_law_expression hr (by decide) rfl (pa_cons (pv 0) (pa_cons (pv 1) (pa_cons (pe_op op_sub (pv 2) pe_int) pa_nil))))) (pss_cons (ps_if (pt_cmpR op_eq (pv 3) pe_int (nomark _)) (pss_one (ps_ret (pe_tup (pa_cons pe_str (pa_cons (pe_cal C_law_expression hr (by decide) rfl (pa_cons (pv 0) (pa_cons (pv 1) (pa_cons (pe_op op_sub (pv 2) pe_int) pa_nil)))) (pa_cons (pv 5) (pa_cons (pv 6) pa_nil))))))) pss_nil) (pss_cons (ps_set (i := 7) sc_expr.nd rfl (Or.inl rfl) (pe_lst (pa_cons pe_str (pa_cons pe_str (pa_cons pe_str (pa_cons pe_str (pa_cons pe_str (pa_cons pe_str (pa_cons pe_str (pa_cons pe_str (pa_cons pe_str (pa_cons pe_str pa_nil)))))))))))) (pss_one (ps_ret (pe_tup (pa_cons (pe_ix (ixK (K := K)) (pv 7) (pe_cal C_law_next hr (by decide) rfl (pa_cons (pv 0) (pa_cons pe_int pa_nil))) (fun _ _ => rfl)) (pa_cons (pv 5) (pa_cons (pv 6) pa_nil))))))))))))), wq_enter h (fun ts g post h => ?l2) fun B ts g post hp => ?_⟩
    case l2 =>
      obtain ⟨n, rfl, _⟩ := h
      exact Nat.le_of_ble_eq_true rfl
    clear h
    obtain ⟨n, rfl, hn, hp⟩ := hp
    show wQ _ _ _ _ _ [.dat _, .dat _, .dat _, .any, .any, .any, .any, .any] _ _ _ _
    try dsimp only [cxOf, Cx.wish, Cx.blk]
    repeat' (wtm_at "z")
    · exact hp (.const _) (wf_const hc)
    · exact hp (.const _) (wf_const hc)
    · exact hp (.col r) (wf_col (by omega))
  | succ d ih =>
    have C_law_expression := ih
    refine ⟨f, fd, F.ok sc_expr (spD_len fun ts g post h => ?lenS) (fun cdv A outer s H vs Q E hr h => ?bodyS), hm, F.kp, F.bindsN fun _ _ _ _ _ _ us hl => match us, hl with | [_, _, _], _ => rfl⟩
    case lenS =>
      obtain ⟨n, rfl, _⟩ := h
      rfl
    refine ⟨_, PSs.nox (pss_cons (ps_set (i := 3) sc_expr.nd rfl (Or.inl rfl) (pe_cal C_law_next hr (by omega) rfl (pa_cons (pv 0) (pa_cons pe_int pa_nil)))) (pss_cons (ps_if (PW.pt (pw_or (pt_cmpR op_eq (pv 2) pe_int (nomark _)) (pw_or1 (pt_cmpR op_lt (pv 3) pe_int (nomark _))))) (pss_cons (ps_if (PW.pt (pw_or (pt_cmpR op_eq (pv 1) pe_int (nomark _)) (pw_or1 (pt_cmpR op_eq (pe_cal C_law_next hr (by omega) rfl (pa_cons (pv 0) (pa_cons pe_int pa_nil))) pe_int (nomark _))))) (pss_one (ps_ret (pe_tup (pa_cons pe_str (pa_cons (pe_cal C_law_cell hr (by omega) rfl (pa_cons (pv 0) pa_nil)) pa_nil))))) pss_nil) (pss_one (ps_ret (pe_tup (pa_cons pe_str (pa_cons (pe_cal C_law_next hr (by omega) rfl (pa_cons (pv 0) (pa_cons (pv 1) pa_nil))) pa_nil)))))) pss_nil) (pss_cons (ps_if (pt_cmpR op_lt (pv 3) pe_int (nomark _)) (pss_cons (ps_set (i := 4) sc_expr.nd rfl (Or.inl rfl) (pe_ix (ixK (K := K)) (pe_lst (pa_cons pe_str (pa_cons pe_str (pa_cons pe_str (pa_cons pe_str pa_nil))))) (pe_cal C_law_next hr (by omega) rfl (pa_cons (pv 0) (pa_cons pe_int pa_nil))) (fun _ _ => rfl))) (pss_one (ps_ret (pe_tup (pa_cons (pv 4) (pa_cons (pe_cal C_law_expression hr (by omega) rfl (pa_cons (pv 0) (pa_cons (pv 1) (pa_cons (pe_op op_sub (pv 2) pe_int) pa_nil)))) pa_nil)))))) pss_nil) (pss_cons (ps_set (i := 5) sc_expr.nd rfl (Or.inl rfl) (pe_cal C_law_expression hr (by omega) rfl (pa_cons (pv 0) (pa_cons (pv 1) (pa_cons (pe_op op_sub (pv 2) pe_int) pa_nil))))) (pss_cons (ps_set (i := 6) sc_expr.nd rfl (Or.inl rfl) (pe_cal C_law_expression hr (by omega) rfl (pa_cons (pv 0) (pa_cons (pv 1) (pa_cons (pe_op op_sub (pv 2) pe_int) pa_nil))))) (pss_cons (ps_if (pt_cmpR op_eq (pv 3) pe_int (nomark _)) (pss_one (ps_ret (pe_tup (pa_cons pe_str (pa_cons (pe_cal C_law_expression hr (by omega) rfl (pa_cons (pv 0) (pa_cons (pv 1) (pa_cons (pe_op op_sub (pv 2) pe_int) pa_nil)))) (pa_cons (pv 5) (pa_cons (pv 6) pa_nil))))))) pss_nil) (pss_cons (ps_set (i := 7) sc_expr.nd rfl (Or.inl rfl) (pe_lst (pa_cons pe_str (pa_cons pe_str (pa_cons pe_str (pa_cons pe_str (pa_cons pe_str (pa_cons pe_str (pa_cons pe_str (pa_cons pe_str (pa_cons pe_str (pa_cons pe_str pa_nil)))))))))))) (pss_one (ps_ret (pe_tup (pa_cons (pe_ix (ixK (K := K)) (pv 7) (pe_cal C_law_next hr (by omega) rfl (pa_cons (pv 0) (pa_cons pe_int pa_nil))) (fun _ _ => rfl)) (pa_cons (pv 5) (pa_cons (pv 6) pa_nil))))))))))))), wq_enter h (fun ts g post h => ?l2S) fun B ts g post hp => ?_⟩
    case l2S =>
      obtain ⟨n, rfl, _⟩ := h
      exact Nat.le_of_ble_eq_true rfl
    clear h
    obtain ⟨n, rfl, hn, hp⟩ := hp
    show wQ _ _ _ _ _ [.dat _, .dat _, .dat _, .any, .any, .any, .any, .any] _ _ _ _
    try dsimp only [cxOf, Cx.wish, Cx.blk]
    repeat' (wtm_at "z")
    all_goals (try simp only [Int.toNat_natCast] at *)
    all_goals first
      | exact hp (.const _) (wf_const hc)
      | exact hp (.col r) (wf_col (by omega))
      | skip
    · refine' ix_mem h1 fun t ht => ?_
      obtain ⟨wd, rfl, hw⟩ := mem_words (ws := unW) ht
      repeat' (wtm_at "z")
      (try simp only [Int.toNat_natCast] at *)
      refine' hp (.un wd _) ?_
      exact ⟨hw, by assumption⟩
    · refine' hp (.cho _ _ _) ?_
      exact ⟨by assumption, by assumption, by assumption⟩
    · refine' ix_mem h1 fun t ht => ?_
      obtain ⟨wd, rfl, hw⟩ := mem_words (ws := binW) ht
      repeat' (wtm_at "z")
      refine' hp (.bin wd _ _) ?_
      exact ⟨hw, by assumption, by assumption⟩
abbrev s_form : Stmt := topS 10
abbrev N_form : List Str := ["draw", "width", "word"]
theorem sc_form : FnScope ["draw", "width", "word"] ["draw", "width"] (defScope s_form) := ⟨rfl, rfl, rfl, by decide +kernel, rfl, by decide +kernel, by decide +kernel⟩
theorem c_form {a : Addr} (D : Dfn K mg "_law_form" s_form) (T : Bls mg) (C_law_next : Cal P w K mg base 1 "_law_next" ["draw", "many"] (spD K R [false, false] (p_next R a))) (C_law_expressionA : ∀ d : Nat, Cal P w K mg base (d + 3) "_law_expression" ["draw", "width", "depth"] (spD K R [false, false, false] (p_expr R a d))) : Cal P w K mg base 5 "_law_form" ["draw", "width"] (spD K R [false, false] (p_form R a)) := by
  have C_law_expression := C_law_expressionA 1
  obtain ⟨f, fd, F, hm⟩ := D.ex
  refine ⟨f, fd, F.ok sc_form (spD_len fun ts g post h => ?len) (fun cdv A outer s H vs Q E hr h => ?body), hm, F.kp, F.bindsN fun _ _ _ _ _ _ us hl => match us, hl with | [_, _], _ => rfl⟩
  case len =>
    obtain ⟨n, rfl, _⟩ := h
    rfl
  case body =>
    refine ⟨_, PSs.nox (pss_cons (ps_set (i := 2) sc_form.nd rfl (Or.inl rfl) (pe_ix (ixK (K := K)) (pe_lst (pa_cons pe_str (pa_cons pe_str (pa_cons pe_str (pa_cons pe_str (pa_cons pe_str (pa_cons pe_str pa_nil))))))) (pe_cal C_law_next hr (by decide) rfl (pa_cons (pv 0) (pa_cons pe_int pa_nil))) (fun _ _ => rfl))) (pss_one (ps_ret (pe_ifExp (pt_cmpR op_eq (pv 2) pe_str (nomark _)) (pe_tup (pa_cons pe_str pa_nil)) (pe_tup (pa_cons (pv 2) (pa_cons (pe_cal C_law_expression hr (by decide) rfl (pa_cons (pv 0) (pa_cons (pv 1) (pa_cons pe_int pa_nil)))) pa_nil))))))), wq_enter h (fun ts g post h => ?l2) fun B ts g post hp => ?_⟩
    case l2 =>
      obtain ⟨n, rfl, _⟩ := h
      exact Nat.le_of_ble_eq_true rfl
    clear h
    obtain ⟨n, rfl, hn, hp⟩ := hp
    show wQ _ _ _ _ _ [.dat _, .dat _, .any] _ _ _ _
    try dsimp only [cxOf, Cx.wish, Cx.blk]
    repeat' (wtm_at "z")
    refine' ix_mem h1 fun t ht => ?_
    obtain ⟨wd, rfl, hw⟩ := mem_words (ws := "count" :: "distinct" :: "sum" :: "sum" :: "least" :: "greatest" :: []) ht
    repeat' (wtm_at "z")
    · exact hp .count trivial
    · (try simp only [Int.toNat_natCast] at *)
      refine' hp (.tot wd _) ?_
      refine ⟨?_, by assumption⟩
      simp only [totW, List.mem_cons, List.not_mem_nil, or_false] at hw ⊢
      rcases hw with h | h | h | h | h | h
      · exact absurd h (by assumption)
      · exact .inl h
      · exact .inr (.inl h)
      · exact .inr (.inl h)
      · exact .inr (.inr (.inl h))
      · exact .inr (.inr (.inr h))
abbrev s_oper : Stmt := topS 11
abbrev N_oper : List Str := ["draw", "sizes", "widths", "steps", "form", "many", "index", "q", "r", "parts", "keys", "totals", "like", "word", "k"]
theorem sc_oper : FnScope ["draw", "sizes", "widths", "steps", "form", "many", "index", "q", "r", "parts", "keys", "totals", "like", "word", "k"] ["draw", "sizes", "widths", "steps"] (defScope s_oper) := ⟨rfl, rfl, rfl, by decide +kernel, rfl, by decide +kernel, by decide +kernel⟩
theorem c_oper {a : Addr} (D : Dfn K mg "_law_operation" s_oper) (T : Bls mg) (C_law_next : Cal P w K mg base 1 "_law_next" ["draw", "many"] (spD K R [false, false] (p_next R a))) (C_law_expression : ∀ d : Nat, Cal P w K mg base (d + 3) "_law_expression" ["draw", "width", "depth"] (spD K R [false, false, false] (p_expr R a d))) (C_law_form : Cal P w K mg base 5 "_law_form" ["draw", "width"] (spD K R [false, false] (p_form R a))) : Cal P w K mg base 6 "_law_operation" ["draw", "sizes", "widths", "steps"] (spD K R [false, true, true, true] (p_oper R a)) := by
  obtain ⟨f, fd, F, hm⟩ := D.ex
  refine ⟨f, fd, F.ok sc_oper (spD_len fun ts g post h => ?len) (fun cdv A outer s H vs Q E hr h => ?body), hm, F.kp, F.bindsN fun _ _ _ _ _ _ us hl => match us, hl with | [_, _, _, _], _ => rfl⟩
  case len =>
    obtain ⟨_, _, _, rfl, _⟩ := h
    rfl
  case body =>
    refine ⟨_, PSs.nox (pss_cons (ps_set (i := 4) sc_oper.nd rfl (Or.inl rfl) (pe_cal C_law_next hr (by decide) rfl (pa_cons (pv 0) (pa_cons pe_int pa_nil)))) (pss_cons (ps_set (i := 5) sc_oper.nd rfl (Or.inl rfl) (pe_callB (lenK (K := K)) (by rfl) T.len bt_len (pa_cons (pv 1) pa_nil))) (pss_cons (ps_if (PW.pt (pw_or (pt_cmpR op_eq (pv 5) pe_int (nomark _)) (pw_or1 (pt_cmpR op_lt (pv 4) pe_int (nomark _))))) (pss_cons (ps_if (PW.pt (pw_and (ptTru (K := K) (pv 3)) (pw_and1 (ptTru (K := K) (pe_cal C_law_next hr (by decide) rfl (pa_cons (pv 0) (pa_cons pe_int pa_nil))))))) (pss_cons (ps_set (i := 6) sc_oper.nd rfl (Or.inl rfl) (pe_cal C_law_next hr (by decide) rfl (pa_cons (pv 0) (pa_cons (pe_callB (lenK (K := K)) (by rfl) T.len bt_len (pa_cons (pv 3) pa_nil)) pa_nil)))) (pss_one (ps_ret (pe_tup (pa_cons (pe_tup (pa_cons pe_str (pa_cons (pv 6) pa_nil))) (pa_cons (pe_ix (ixK (K := K)) (pv 3) (pv 6) (fun _ _ => rfl)) pa_nil)))))) pss_nil) (pss_cons (ps_set (i := 6) sc_oper.nd rfl (Or.inl rfl) (pe_cal C_law_next hr (by decide) rfl (pa_cons (pv 0) (pa_cons (pe_callB (lenK (K := K)) (by rfl) T.len bt_len (pa_cons (pv 2) pa_nil)) pa_nil)))) (pss_one (ps_ret (pe_tup (pa_cons (pe_tup (pa_cons pe_str (pa_cons (pv 6) pa_nil))) (pa_cons (pe_ix (ixK (K := K)) (pv 2) (pv 6) (fun _ _ => rfl)) pa_nil))))))) pss_nil) (pss_cons (ps_set (i := 7) sc_oper.nd rfl (Or.inr rfl) (pe_op op_sub (pe_op op_sub (pv 5) pe_int) (pe_cal C_law_next hr (by decide) rfl (pa_cons (pv 0) (pa_cons (pe_callB (call_min2 rfl) (by rfl) T.min bt_min (pa_cons (pv 5) (pa_cons pe_int pa_nil))) pa_nil))))) (pss_cons (ps_set (i := 8) sc_oper.nd rfl (Or.inl rfl) (pe_op op_sub (pe_op op_sub (pv 5) pe_int) (pe_cal C_law_next hr (by decide) rfl (pa_cons (pv 0) (pa_cons (pe_callB (call_min2 rfl) (by rfl) T.min bt_min (pa_cons (pv 5) (pa_cons pe_int pa_nil))) pa_nil))))) (pss_cons (ps_if (pt_cmpR op_lt (pv 4) pe_int (nomark _)) (pss_one (ps_ret (pe_tup (pa_cons (pe_tup (pa_cons pe_str (pa_cons (pe_cal (C_law_expression 2) hr (by decide) rfl (pa_cons (pv 0) (pa_cons (pe_ix (ixK (K := K)) (pv 1) (pv 7) (fun _ _ => rfl)) (pa_cons pe_int pa_nil)))) (pa_cons (pv 7) pa_nil)))) (pa_cons (pe_ix (ixK (K := K)) (pv 1) (pv 7) (fun _ _ => rfl)) pa_nil))))) pss_nil) (pss_cons (ps_if (pt_cmpR op_eq (pv 4) pe_int (nomark _)) (pss_cons (ps_setLc (i := 9) (own := [("k", 14)]) rfl sc_oper.nd rfl rfl (sw_true rfl rfl rfl (by decide +kernel)) (pi_range1 (by rfl) T.range (pa_cons (pe_op op_add pe_int (pe_cal C_law_next hr (by decide) rfl (pa_cons (pv 0) (pa_cons pe_int pa_nil)))) pa_nil)) (blkOk_by (N := N_oper) (sc := defScope s_oper) (own := [("k", 14)]) (by decide +kernel)) (fun _ _ _ _ _ => (pg_name (i := 14) sc_oper.nd rfl (Or.inl rfl))) (fun _ _ _ _ _ => pts_nil) (fun _ _ _ _ _ => (pe_cal (C_law_expression 1) hr (by decide) rfl (pa_cons (pv 0) (pa_cons (pe_ix (ixK (K := K)) (pv 1) (pv 7) (fun _ _ => rfl)) (pa_cons pe_int pa_nil)))))) (pss_one (ps_ret (pe_tup (pa_cons (pe_tup (pa_cons pe_str (pa_cons (pv 9) (pa_cons (pv 7) pa_nil)))) (pa_cons (pe_callB (lenK (K := K)) (by rfl) T.len bt_len (pa_cons (pv 9) pa_nil)) pa_nil)))))) pss_nil) (pss_cons (ps_if (pt_cmpR op_eq (pv 4) pe_int (nomark _)) (pss_cons (ps_setLc (i := 10) (own := [("k", 14)]) rfl sc_oper.nd rfl rfl (sw_true rfl rfl rfl (by decide +kernel)) (pi_range1 (by rfl) T.range (pa_cons (pe_cal C_law_next hr (by decide) rfl (pa_cons (pv 0) (pa_cons pe_int pa_nil))) pa_nil)) (blkOk_by (N := N_oper) (sc := defScope s_oper) (own := [("k", 14)]) (by decide +kernel)) (fun _ _ _ _ _ => (pg_name (i := 14) sc_oper.nd rfl (Or.inl rfl))) (fun _ _ _ _ _ => pts_nil) (fun _ _ _ _ _ => (pe_cal (C_law_expression 1) hr (by decide) rfl (pa_cons (pv 0) (pa_cons (pe_ix (ixK (K := K)) (pv 1) (pv 7) (fun _ _ => rfl)) (pa_cons pe_int pa_nil)))))) (pss_cons (ps_setLc (i := 11) (own := [("k", 14)]) rfl sc_oper.nd rfl rfl (sw_true rfl rfl rfl (by decide +kernel)) (pi_range1 (by rfl) T.range (pa_cons (pe_op op_add (pe_cal C_law_next hr (by decide) rfl (pa_cons (pv 0) (pa_cons pe_int pa_nil))) (pe_callTy call_int1 (by rfl) T.int bt_int (pa_cons (peNot (K := K) (pv 10)) pa_nil))) pa_nil)) (blkOk_by (N := N_oper) (sc := defScope s_oper) (own := [("k", 14)]) (by decide +kernel)) (fun _ _ _ _ _ => (pg_name (i := 14) sc_oper.nd rfl (Or.inl rfl))) (fun _ _ _ _ _ => pts_nil) (fun _ _ _ _ _ => (pe_cal C_law_form hr (by decide) rfl (pa_cons (pv 0) (pa_cons (pe_ix (ixK (K := K)) (pv 1) (pv 7) (fun _ _ => rfl)) pa_nil))))) (pss_one (ps_ret (pe_tup (pa_cons (pe_tup (pa_cons pe_str (pa_cons (pv 10) (pa_cons (pv 11) (pa_cons (pv 7) pa_nil))))) (pa_cons (pe_op op_add (pe_callB (lenK (K := K)) (by rfl) T.len bt_len (pa_cons (pv 10) pa_nil)) (pe_callB (lenK (K := K)) (by rfl) T.len bt_len (pa_cons (pv 11) pa_nil))) pa_nil))))))) pss_nil) (pss_cons (ps_if (PW.pt (pw_and (pt_cmpR op_lt (pv 4) pe_int (nomark _)) (pw_and1 (pt_cmpR op_lt (pe_op op_add (pe_ix (ixK (K := K)) (pv 1) (pv 7) (fun _ _ => rfl)) (pe_ix (ixK (K := K)) (pv 1) (pv 8) (fun _ _ => rfl))) pe_int (nomark _))))) (pss_one (ps_ret (pe_tup (pa_cons (pe_tup (pa_cons pe_str (pa_cons (pe_cal (C_law_expression 2) hr (by decide) rfl (pa_cons (pv 0) (pa_cons (pe_op op_add (pe_ix (ixK (K := K)) (pv 1) (pv 7) (fun _ _ => rfl)) (pe_ix (ixK (K := K)) (pv 1) (pv 8) (fun _ _ => rfl))) (pa_cons pe_int pa_nil)))) (pa_cons (pv 7) (pa_cons (pv 8) pa_nil))))) (pa_cons (pe_op op_add (pe_ix (ixK (K := K)) (pv 1) (pv 7) (fun _ _ => rfl)) (pe_ix (ixK (K := K)) (pv 1) (pv 8) (fun _ _ => rfl))) pa_nil))))) pss_nil) (pss_cons (ps_if (pt_cmpR op_eq (pv 4) pe_int (nomark _)) (pss_one (ps_ret (pe_tup (pa_cons (pe_tup (pa_cons pe_str (pa_cons (pe_cal (C_law_expression 2) hr (by decide) rfl (pa_cons (pv 0) (pa_cons (pe_op op_add (pe_ix (ixK (K := K)) (pv 1) (pv 7) (fun _ _ => rfl)) (pe_ix (ixK (K := K)) (pv 1) (pv 8) (fun _ _ => rfl))) (pa_cons pe_int pa_nil)))) (pa_cons (pv 7) (pa_cons (pv 8) pa_nil))))) (pa_cons (pe_ix (ixK (K := K)) (pv 1) (pv 7) (fun _ _ => rfl)) pa_nil))))) pss_nil) (pss_cons (ps_setLc (i := 12) (own := [("k", 14)]) rfl sc_oper.nd rfl rfl (sw_true rfl rfl rfl (by decide +kernel)) (pi_range1 (by rfl) T.range (pa_cons (pv 5) pa_nil)) (blkOk_by (N := N_oper) (sc := defScope s_oper) (own := [("k", 14)]) (by decide +kernel)) (fun _ _ _ _ _ => (pg_name (i := 14) sc_oper.nd rfl (Or.inl rfl))) (fun _ _ _ _ _ => (pts_one (pt_cmpR op_eq (pe_ix (ixK (K := K)) (pv 1) (pv 14) (fun _ _ => rfl)) (pe_ix (ixK (K := K)) (pv 1) (pv 7) (fun _ _ => rfl)) (nomark _)))) (fun _ _ _ _ _ => (pv 14))) (pss_cons (ps_set (i := 13) sc_oper.nd rfl (Or.inl rfl) (pe_ix (ixK (K := K)) (pe_lst (pa_cons pe_str (pa_cons pe_str pa_nil))) (pe_cal C_law_next hr (by decide) rfl (pa_cons (pv 0) (pa_cons pe_int pa_nil))) (fun _ _ => rfl))) (pss_one (ps_ret (pe_tup (pa_cons (pe_tup (pa_cons (pv 13) (pa_cons (pv 7) (pa_cons (pe_ix (ixK (K := K)) (pv 12) (pe_cal C_law_next hr (by decide) rfl (pa_cons (pv 0) (pa_cons (pe_callB (lenK (K := K)) (by rfl) T.len bt_len (pa_cons (pv 12) pa_nil)) pa_nil))) (fun _ _ => rfl)) pa_nil)))) (pa_cons (pe_ix (ixK (K := K)) (pv 1) (pv 7) (fun _ _ => rfl)) pa_nil))))))))))))))))), wq_enter h (fun ts g post h => ?l2) fun B ts g post hp => ?_⟩
    case l2 =>
      obtain ⟨_, _, _, rfl, _⟩ := h
      exact Nat.le_of_ble_eq_true rfl
    clear h
    obtain ⟨sizes, widths, steps, rfl, ⟨z1, z2, z3, w0, l1, l2, l3⟩, hp⟩ := hp
    show wQ _ _ _ _ _ [.dat _, .bor _, .bor _, .bor _, .any, .any, .any, .any, .any, .any, .any, .any, .any, .any, .any] _ _ _ _
    try dsimp only [cxOf, Cx.wish, Cx.blk]
    have len1 : ((natT sizes).length : Int) = sizes.length := by rw [natT_len]
    have len2 : ((natT widths).length : Int) = widths.length := by rw [natT_len]
    have len3 : ((natT steps).length : Int) = steps.length := by rw [natT_len]
    have w1 : 0 < widths.length := List.length_pos_iff.mpr w0
    -- form, many
    refine wq_seqI (fun t => ∃ f : Nat, f < 11 ∧ t = .int f) ?_ ?_
    · repeat' (wtm_at "z")
      exact ⟨r, by omega, rfl⟩
    rintro _ ⟨form, hf, rfl⟩
    refine wq_seqI (fun t => t = .int (sizes.length : Nat)) ?_ ?_
    · repeat' (wtm_at "z")
      rw [len1]
    rintro _ rfl
    -- a table, a step
    refine wq_seqM (fun g' es' => g' = g ∧ es' = [.dat (.raw (.ref a)), .bor (.lst (natT sizes)), .bor (.lst (natT widths)), .bor (.lst (natT steps)), .dat (.int form), .dat (.int (sizes.length : Nat)), .any, .any, .any, .any, .any, .any, .any, .any, .any] ∧ 0 < sizes.length) ?_ ?_
    · repeat' (wtm_at "z")
      all_goals first
        | omega
        | (refine hp (.step _) _ ⟨?_, rfl⟩; omega)
        | (refine hp (.table _) _ ⟨?_, rfl⟩; omega)
    rintro _ _ ⟨rfl, rfl, hpos⟩
    -- the two sources
    refine wq_seqI (fun t => ∃ q : Nat, q < sizes.length ∧ t = .int q) ?_ ?_
    · repeat' (wtm_at "z")
      exact ⟨sizes.length - 1 - r, by split at h1 <;> omega, by congr 1; split at h1 <;> omega⟩
    rintro _ ⟨q, hq, rfl⟩
    refine wq_seqI (fun t => ∃ q : Nat, q < sizes.length ∧ t = .int q) ?_ ?_
    · repeat' (wtm_at "z")
      exact ⟨sizes.length - 1 - r, by split at h1 <;> omega, by congr 1; split at h1 <;> omega⟩
    rintro _ ⟨r, hr', rfl⟩
    have sq := Sz.get z1 hq
    have sr := Sz.get z1 hr'
    repeat' (wtm_at "z")
    all_goals (try simp only [Int.toNat_natCast] at *)
    all_goals (try (refine hp (.filter x q) _ ⟨hq, ?_, rfl⟩; assumption))
    all_goals (try (refine hp (.anti x q r) _ ⟨hq, hr', ?_, rfl⟩; rw [← Int.natCast_add, Int.toNat_natCast] at hx; exact hx))
    all_goals (try (rw [← Int.natCast_add, Int.toNat_natCast] at hx; rw [← Int.natCast_add]; refine hp (.join x q r) _ ⟨hq, hr', hx, ?_, rfl⟩; omega))
    · refine we_lcN (fun y => ∃ x : X, y = x.t ∧ x.wf (sizes.getD q 0) 1) ?_
      repeat' (wtm_at "z")
      refine ⟨by omega, noOwn1 rfl rfl, fun k hk => ?_, fun ys hl hy => ?_⟩
      · repeat' (wtm_at "z")
        assumption
      · obtain ⟨es, rfl, he⟩ := all_map hy
        repeat' (wtm_at "z")
        rw [List.length_map] at *
        exact hp (.map es q) _ ⟨hq, he, by omega, by omega, rfl⟩
    · refine we_lcN (fun y => ∃ x : X, y = x.t ∧ x.wf (sizes.getD q 0) 1) ?_
      repeat' (wtm_at "z")
      refine ⟨by omega, noOwn1 rfl rfl, fun k hk => ?_, fun ys hl hy => ?_⟩
      · repeat' (wtm_at "z")
        assumption
      · obtain ⟨ks, rfl, hk⟩ := all_map hy
        rw [List.length_map] at hl
        refine wq_seq (wq_set ?_)
        refine we_lcN (fun y => ∃ x : Fm, y = x.t ∧ x.wf (sizes.getD q 0)) ?_
        repeat' (wtm_at "z")
        refine ⟨?_, noOwn1 rfl rfl, fun k hk => ?_, fun ys hl hy => ?_⟩
        · split <;> omega
        · repeat' (wtm_at "z")
          assumption
        · obtain ⟨ts, rfl, ht⟩ := all_map hy
          repeat' (wtm_at "z")
          rw [List.length_map] at hl
          rw [List.length_map, List.length_map, ← Int.natCast_add]
          refine hp (.group ks ts q) _ ⟨hq, hk, ht, ?_, ?_, ?_, rfl⟩
          all_goals
            have hk2 : (if (!!(List.map X.t ks).isEmpty) = true then (1 : Int) else 0) = if ks.length = 0 then 1 else 0 := by cases ks <;> rfl
            rw [hk2] at hl
            split at hl <;> omega
    all_goals
      refine we_lcFN (fun k => decide (sizes.getD k 0 = sizes.getD q 0)) ?_
      repeat' (wtm_at "z")
      refine ⟨l1, noOwn1 rfl rfl, Nat.le_of_ble_eq_true rfl, fun k hk => ?_, fun ys hl4 hy => ?_⟩
      · repeat' (wtm_at "z")
        exact decide_eq_decide.mpr Int.ofNat_inj
      · have hq2 : q ∈ ys := (hy q).mpr ⟨hq, by simp⟩
        have hq3 : 0 < ys.length := List.length_pos_of_mem hq2
        have len4 : ((natT ys).length : Int) = ys.length := by rw [natT_len]
        repeat' (wtm_at "z")
        refine' ix_mem h1 fun t ht => ?_
        obtain ⟨wd, rfl, hw⟩ := mem_words (ws := "union" :: "minus" :: []) ht
        repeat' (wtm_at "z")
        have mem : ∀ i : Nat, (i : Int) < ys.length → ys.getD i 0 < sizes.length ∧ sizes.getD (ys.getD i 0) 0 = sizes.getD q 0 := fun i hi => by
          have e1 : ys.getD i 0 = ys[i] := by simp [show i < ys.length by omega]
          have := (hy (ys.getD i 0)).mp (e1 ▸ List.getElem_mem _)
          exact ⟨this.1, of_decide_eq_true this.2⟩
        obtain ⟨m1, m2⟩ := mem r (by omega)
        rcases List.mem_cons.mp hw with rfl | hw
        · exact hp (.union q _) _ ⟨hq, m1, m2, rfl⟩
        · cases List.mem_singleton.mp hw
          exact hp (.minus q _) _ ⟨hq, m1, m2, rfl⟩
abbrev s_room : Stmt := topS 12
abbrev N_room : List Str := ["operation", "rooms", "word", "many", "found", "form"]
theorem sc_room : FnScope ["operation", "rooms", "word", "many", "found", "form"] ["operation", "rooms"] (defScope s_room) := ⟨rfl, rfl, rfl, by decide +kernel, rfl, by decide +kernel, by decide +kernel⟩
theorem c_room  (D : Dfn K mg "_law_room" s_room) (T : Bls mg)  : Cal P w K mg base 2 "_law_room" ["operation", "rooms"] (spD K R [false, true] (p_room R)) := by
  obtain ⟨f, fd, F, hm⟩ := D.ex
  refine ⟨f, fd, F.ok sc_room (spD_len fun ts g post h => ?len) (fun cdv A outer s H vs Q E hr h => ?body), hm, F.kp, F.bindsN fun _ _ _ _ _ _ us hl => match us, hl with | [_, _], _ => rfl⟩
  case len =>
    obtain ⟨_, _, _, _, _, _, rfl, _⟩ := h
    rfl
  case body =>
    refine ⟨_, PSs.nox (pss_cons (ps_set (i := 2) sc_room.nd rfl (Or.inl rfl) (pe_ix (ixK (K := K)) (pv 0) pe_int (fun _ _ => rfl))) (pss_cons (ps_if (pt_cmpR (inK (K := K)) (pv 2) (pe_tup (pa_cons pe_str (pa_cons pe_str pa_nil))) (by rfl)) (pss_one (ps_ret (pe_ifExp (pt_cmpR op_eq (pv 2) pe_str (nomark _)) pe_int pe_int))) pss_nil) (pss_cons (ps_if (pt_cmpR op_eq (pv 2) pe_str (nomark _)) (pss_one (ps_ret (pe_op op_add (pe_ix (ixK (K := K)) (pv 1) (pe_ix (ixK (K := K)) (pv 0) pe_int (fun _ _ => rfl)) (fun _ _ => rfl)) (pe_ix (ixK (K := K)) (pv 1) (pe_ix (ixK (K := K)) (pv 0) pe_int (fun _ _ => rfl)) (fun _ _ => rfl))))) pss_nil) (pss_cons (ps_if (pt_cmpR op_eq (pv 2) pe_str (nomark _)) (pss_one (ps_ret (pe_ix (ixK (K := K)) (pv 1) (pe_ix (ixK (K := K)) (pv 0) pe_int (fun _ _ => rfl)) (fun _ _ => rfl)))) pss_nil) (pss_cons (ps_if (pt_cmpR op_eq (pv 2) pe_str (nomark _)) (pss_one (ps_ret (pe_op op_mul (pe_ix (ixK (K := K)) (pv 1) (pe_ix (ixK (K := K)) (pv 0) pe_int (fun _ _ => rfl)) (fun _ _ => rfl)) (pe_ix (ixK (K := K)) (pv 1) (pe_ix (ixK (K := K)) (pv 0) pe_int (fun _ _ => rfl)) (fun _ _ => rfl))))) pss_nil) (pss_cons (ps_if (pt_cmpR op_ne (pv 2) pe_str (nomark _)) (pss_one (ps_ret (pe_ix (ixK (K := K)) (pv 1) (pe_ix (ixK (K := K)) (pv 0) pe_int (fun _ _ => rfl)) (fun _ _ => rfl)))) pss_nil) (pss_cons (ps_set (i := 3) sc_room.nd rfl (Or.inl rfl) (pe_ix (ixK (K := K)) (pv 1) (pe_ix (ixK (K := K)) (pv 0) pe_int (fun _ _ => rfl)) (fun _ _ => rfl))) (pss_cons (ps_set (i := 4) sc_room.nd rfl (Or.inl rfl) (pe_ifExp (pt_not (ptTru (K := K) (pe_ix (ixK (K := K)) (pv 0) pe_int (fun _ _ => rfl)))) (pe_op op_add pe_int (pe_op op_mul pe_int (pv 3))) pe_int)) (pss_cons (ps_for PassesOwn.never rfl (piList (K := K) (pe_ix (ixK (K := K)) (pv 0) pe_int (fun _ _ => rfl))) (pg_name (i := 5) sc_room.nd rfl (Or.inl rfl)) (pss_one (ps_set (i := 4) sc_room.nd rfl (Or.inl rfl) (pe_op op_mul (pv 4) (pe_ifExp (pt_cmpR op_eq (pe_ix (ixK (K := K)) (pv 5) pe_int (fun _ _ => rfl)) pe_str (nomark _)) (pe_op op_shl pe_int (pe_callB (call_min2 rfl) (by rfl) T.min bt_min (pa_cons (pv 3) (pa_cons pe_int pa_nil)))) (pe_op op_add pe_int (pv 3))))))) (pss_one (ps_ret (pv 4)))))))))))), wq_enter h (fun ts g post h => ?l2) fun B ts g post hp => ?_⟩
    case l2 =>
      obtain ⟨_, _, _, _, _, _, rfl, _⟩ := h
      exact Nat.le_of_ble_eq_true rfl
    clear h
    obtain ⟨op, z, sizes, widths, steps, rooms, rfl, hw, hl, hb, hp⟩ := hp
    show wQ _ _ _ _ _ [.dat _, .bor _, .any, .any, .any, .any] _ _ _ _
    try dsimp only [cxOf, Cx.wish, Cx.blk]
    have get : ∀ q, rooms.getD q 0 ≤ 300 := fun q => by
      by_cases hq : q < rooms.length
      · have e : rooms.getD q 0 = rooms[q] := by simp [hq]
        rw [e]
        exact hb _ (List.getElem_mem hq)
      · have e : rooms.getD q 0 = 0 := by simp [Nat.le_of_not_lt hq]
        rw [e]
        omega
    cases op
    case group ks ts q =>
      have gq := get q
      dsimp only [Op.t, Op.wf] at hw ⊢
      let F := fun n (f : Fm) => n * f.room (rooms.getD q 0)
      have run : ∀ (b : Nat) (e2 e5 : Ent), b = (if ts.length = 0 then 1 + 2 * rooms.getD q 0 else 2) → wQ K R B
          (tFor (iList K (tOp (rIx K) (tVar 0) (tC (V.int 2)))) (gName 5) (tAsg (tOp (rI CMul fun i j => V.int (i * j)) (tVar 4)
              (tIf (tTest (tOp rEq (tOp (rIx K) (tVar 5) (tC (V.int 0))) (tC (V.str (Str.ofString "sum")))))
                (tOp (rI CPow fun i j => V.int (i * 2 ^ j.toNat)) (tC (V.int 1)) (tCB (fun xs H Q => ∃ i j, xs = [V.int i, V.int j] ∧ Q (V.int (if j < i then j else i)) H) (tCons (tVar 3) (tCons (tC (V.int 20)) tNil))))
                (tOp (rI0 fun i j => V.int (i + j)) (tC (V.int 1)) (tVar 3)))) (gName 4))) g
          [.dat (.tup [.str "group", .lst (ks.map X.t), .lst (ts.map Fm.t), .int q]), .bor (.lst (natT rooms)), e2, .dat (.int (rooms.getD q 0 : Nat)), .dat (.int (b : Int)), e5] (fun g1 es1 => wQ K R B (tRet (tVar 4)) g1 es1 (fun g' _ => post .non g') post (fun _ _ => False) (fun _ _ => False)) post (fun _ _ => False) (fun _ _ => False) := by
        intro b e2 e5 hbase
        refine (wq_for (tgt_name 5 [5] (List.mem_singleton.mpr rfl)) (wi_list (we_op (we_var rfl (we_int (wr_ixT ⟨_, rfl, _, rfl, ?_⟩))))))
        refine ⟨fun n g2 es2 => g2 = g ∧ ∃ e, es2 = [.dat (.tup [.str "group", .lst (ks.map X.t), .lst (ts.map Fm.t), .int q]), .bor (.lst (natT rooms)), e2, .dat (.int (rooms.getD q 0 : Nat)), .dat (.int ((ts.take n).foldl F b : Nat)), e], ⟨rfl, _, rfl⟩, ?_, ?_⟩
        · rintro n x g2 es2 hx ⟨rfl, e, rfl⟩
          obtain ⟨f, hf, rfl⟩ := map_get hx
          refine ⟨_, rfl, ?_⟩
          have fin : ((ts.take (n + 1)).foldl F b : Nat) = (ts.take n).foldl F b * f.room (rooms.getD q 0) := fold_snoc hf
          generalize (ts.take n).foldl F b = acc at fin
          dsimp only
          rw [fin]
          have cm := Fm.room_c gq f (acc : Int)
          cases f with
          | count =>
            dsimp only [Fm.t]
            repeat' (wtm_at "z")
            refine ⟨rfl, .dat (.tup [.str "count"]), ?_⟩
            rw [Int.natCast_mul] <;> rfl
          | tot w e =>
            dsimp only [Fm.t]
            repeat' (wtm_at "z")
            · rename_i hs
              refine wr_intC ⟨by split <;> omega, by split <;> omega, by decide⟩ ?_
              rw [Fm.room_sum (e := e) hs]
              refine wr_intC cm ?_
              refine ⟨rfl, .dat (.tup [.str w, e.t]), ?_⟩
              rw [Int.natCast_mul] <;> rfl
            · rename_i hs
              refine ⟨rfl, .dat (.tup [.str w, e.t]), ?_⟩
              rw [Int.natCast_mul, ← Fm.room_not (e := e) hs] <;> rfl
        · rintro g2 es2 ⟨rfl, e, rfl⟩
          repeat' (wtm_at "z")
          rw [List.length_map, List.take_length, hbase]
          exact hp
      repeat' (wtm_at "z")
      all_goals (rename_i hl0; rw [List.length_map] at hl0)
      · exact run (1 + 2 * rooms.getD q 0) _ _ (by rw [if_pos hl0])
      · exact run 2 _ _ (by rw [if_neg (by omega)])
    case join e q r =>
      have gq := get q
      have gr := get r
      dsimp only [Op.t, Op.wf] at hw ⊢
      repeat' (wtm_at "z")
      rw [← Int.natCast_mul]
      exact hp
    all_goals
      dsimp only [Op.t, Op.wf] at hw ⊢
      have get1 := get
      repeat' (wtm_at "z")
      all_goals first
        | exact hp
        | (rw [← Int.natCast_add]; exact hp)
        | skip
    all_goals trace_state
abbrev s_plan : Stmt := topS 13
abbrev N_plan : List Str := ["draw", "widths", "steps", "most", "plan", "sizes", "rooms", "many", "k", "operation", "size"]
theorem sc_plan : FnScope ["draw", "widths", "steps", "most", "plan", "sizes", "rooms", "many", "k", "operation", "size"] ["draw", "widths", "steps", "most"] (defScope s_plan) := ⟨rfl, rfl, rfl, by decide +kernel, rfl, by decide +kernel, by decide +kernel⟩
theorem c_plan {a : Addr} (D : Dfn K mg "_law_plan" s_plan) (T : Bls mg) (C_law_next : Cal P w K mg base 1 "_law_next" ["draw", "many"] (spD K R [false, false] (p_next R a))) (C_law_operation : Cal P w K mg base 6 "_law_operation" ["draw", "sizes", "widths", "steps"] (spD K R [false, true, true, true] (p_oper R a))) (C_law_room : Cal P w K mg base 2 "_law_room" ["operation", "rooms"] (spD K R [false, true] (p_room R))) : Cal P w K mg base 7 "_law_plan" ["draw", "widths", "steps", "most"] (spD K R [false, true, true, false] (p_plan R a)) := by
  obtain ⟨f, fd, F, hm⟩ := D.ex
  refine ⟨f, fd, F.ok sc_plan (spD_len fun ts g post h => ?len) (fun cdv A outer s H vs Q E hr h => ?body), hm, F.kp, F.bindsN fun _ _ _ _ _ _ us hl => match us, hl with | [_, _, _, _], _ => rfl⟩
  case len =>
    obtain ⟨_, _, _, rfl, _⟩ := h
    rfl
  case body =>
    refine ⟨_, PSs.nox (pss_cons (ps_set (i := 4) sc_plan.nd rfl (Or.inl rfl) (pe_lst pa_nil)) (pss_cons (ps_set (i := 5) sc_plan.nd rfl (Or.inl rfl) (pe_lst pa_nil)) (pss_cons (ps_set (i := 6) sc_plan.nd rfl (Or.inl rfl) (pe_lst pa_nil)) (pss_cons (ps_set (i := 7) sc_plan.nd rfl (Or.inl rfl) (pe_op op_add pe_int (pe_cal C_law_next hr (by decide) rfl (pa_cons (pv 0) (pa_cons (pv 3) pa_nil))))) (pss_cons (ps_for PassesOwn.never rfl (pi_range1 (by rfl) T.range (pa_cons (pv 7) pa_nil)) (pg_name (i := 8) sc_plan.nd rfl (Or.inl rfl)) (pss_cons (ps_asg (pe_cal C_law_operation hr (by decide) rfl (pa_cons (pv 0) (pa_cons (pv 5) (pa_cons (pv 1) (pa_cons (pv 2) pa_nil))))) (pgTup (K := K) rfl (pgs_cons (pg_name (i := 9) sc_plan.nd rfl (Or.inl rfl)) (pgs_cons (pg_name (i := 10) sc_plan.nd rfl (Or.inl rfl)) pgs_nil)))) (pss_cons (ps_if (pt_cmpR op_gt (pe_cal C_law_room hr (by decide) rfl (pa_cons (pv 9) (pa_cons (pv 6) pa_nil))) (pe_ifExp (pt_cmpR op_lt (pv 8) (pe_op op_sub (pv 7) pe_int) (nomark _)) pe_int pe_int) (nomark _)) (pss_one (ps_par (i := 9) (j := 10) rfl sc_plan.nd rfl rfl (by decide) rfl rfl (pa_cons (pe_tup (pa_cons pe_str (pa_cons pe_int pa_nil))) (pa_cons (pe_ix (ixK (K := K)) (pv 1) pe_int (fun _ _ => rfl)) pa_nil)) rfl)) pss_nil) (pss_cons (ps_expr (pe_bm PySem.F.plainAttrs_list PySem.F.slot_list_append PySem.F.type_list_append mt_append (pv 4) (pa_cons (pv 9) pa_nil))) (pss_cons (ps_expr (pe_bm PySem.F.plainAttrs_list PySem.F.slot_list_append PySem.F.type_list_append mt_append (pv 5) (pa_cons (pv 10) pa_nil))) (pss_one (ps_expr (pe_bm PySem.F.plainAttrs_list PySem.F.slot_list_append PySem.F.type_list_append mt_append (pv 6) (pa_cons (pe_cal C_law_room hr (by decide) rfl (pa_cons (pv 9) (pa_cons (pv 6) pa_nil))) pa_nil))))))))) (pss_one (ps_ret (pe_tup (pa_cons (pv 4) (pa_cons (pe_ix (ixK (K := K)) (pv 5) (pe_un un_neg pe_int) (fun _ _ => rfl)) pa_nil)))))))))), wq_enter h (fun ts g post h => ?l2) fun B ts g post hp => ?_⟩
    case l2 =>
      obtain ⟨_, _, _, rfl, _⟩ := h
      exact Nat.le_of_ble_eq_true rfl
    clear h
    obtain ⟨widths, steps, m, rfl, ⟨z2, z3, w0, l2, l3, m1, m2⟩, hp⟩ := hp
    show wQ _ _ _ _ _ [.dat _, .bor _, .bor _, .dat _, .any, .any, .any, .any, .any, .any, .any] _ _ _ _
    try dsimp only [cxOf, Cx.wish, Cx.blk]
    have w1 : 0 < widths.length := List.length_pos_iff.mpr w0
    refine wq_seq (wq_setL (wa_nil ⟨Nat.zero_le _, ?_⟩))
    refine wq_seq (wq_setL (wa_nil ⟨Nat.zero_le _, ?_⟩))
    refine wq_seq (wq_setL (wa_nil ⟨Nat.zero_le _, ?_⟩))
    refine wq_seqI (fun t => ∃ f : Nat, 1 ≤ f ∧ f ≤ 7 ∧ t = .int f) ?_ ?_
    · repeat' (wtm_at "z")
      exact ⟨1 + r, by omega, by omega, by rw [Int.natCast_add]; rfl⟩
    rintro _ ⟨many, k1, k2, rfl⟩
    refine wq_seq (wq_for (tgt_name 8 [8] (List.mem_singleton.mpr rfl)) (wi_rng1 (wa_cons (we_var rfl (wa_nil ⟨_, rfl, by omega, ?_⟩)))))
    refine ⟨fun n g2 es2 => g2 = g ∧ ∃ (ops : List Op) (sizes rooms : List Nat) (e1 e2 e3 : Ent), PlanOk widths steps ops sizes ∧ ops.length = n ∧ rooms.length = n ∧ (∀ r, r ∈ rooms → r ≤ 300) ∧ es2 = [.dat (.raw (.ref a)), .bor (.lst (natT widths)), .bor (.lst (natT steps)), .dat (.int m), .lst (ops.map Op.t), .lst (natT sizes), .lst (natT rooms), .dat (.int (many : Nat)), e1, e2, e3], ⟨rfl, [], [], [], .any, .any, .any, .nil, rfl, rfl, fun r h => (List.not_mem_nil h).elim, rfl⟩, ?_, ?_⟩
    · rintro n x g2 es2 hx ⟨rfl, ops, sizes, rooms, e1, e2, e3, ok, hn, hr2, hro, rfl⟩
      have hlt : n < many := by
        have := (List.getElem?_eq_some_iff.mp hx).1
        rw [rangeT_len] at this
        omega
      rw [rangeT_get (by omega)] at hx
      cases hx
      refine ⟨_, rfl, ?_⟩
      rw [Int.zero_add]
      have ol := ok.1
      refine wq_seqM (fun g' es' => g' = g2 ∧ ∃ (op : Op) (z : Nat), op.wf sizes widths steps z ∧ es' = [.dat (.raw (.ref a)), .bor (.lst (natT widths)), .bor (.lst (natT steps)), .dat (.int m), .lst (ops.map Op.t), .lst (natT sizes), .lst (natT rooms), .dat (.int (many : Nat)), .dat (.int (n : Nat)), .dat op.t, .dat (.int (z : Nat))]) ?_ ?_
      · refine wq_setT (we_call ?_)
        repeat' (wtm_at "z")
        exact ⟨sizes, widths, steps, rfl, ⟨ok.2.1, z2, z3, w0, by omega, by omega, by omega⟩, fun op z hw => ⟨_, _, rfl, rfl, op, z, hw, rfl⟩⟩
      rintro g2 _ ⟨rfl, op, z, hw, rfl⟩
      have sz : ∀ k, k ≤ 7 → k < sizeLine := fun k h => Nat.lt_of_le_of_lt h (by decide)
      refine wq_seqM (fun g' es' => g' = g2 ∧ ∃ (op : Op) (z : Nat), op.wf sizes widths steps z ∧ op.room rooms ≤ 300 ∧ es' = [.dat (.raw (.ref a)), .bor (.lst (natT widths)), .bor (.lst (natT steps)), .dat (.int m), .lst (ops.map Op.t), .lst (natT sizes), .lst (natT rooms), .dat (.int (many : Nat)), .dat (.int (n : Nat)), .dat op.t, .dat (.int (z : Nat))]) ?_ ?_
      · repeat' (wtm_at "z")
        refine ⟨op, z, sizes, widths, steps, rooms, rfl, hw, by omega, hro, ?_⟩
        repeat' (wtm_at "z")
        all_goals first
          | exact ⟨rfl, op, z, hw, by omega, rfl⟩
          | exact ⟨.table 0, widths.getD 0 0, ⟨w1, rfl⟩, (by decide : 6 ≤ 300), rfl⟩
          | skip
      rintro g2 _ ⟨rfl, op, z, hw, hro2, rfl⟩
      repeat' (wtm_at "z")
      refine ⟨by rw [List.length_map, hn]; exact sz n (by omega), ?_⟩
      repeat' (wtm_at "z")
      refine ⟨by rw [natT_len]; exact sz _ (by omega), ?_⟩
      repeat' (wtm_at "z")
      refine ⟨op, z, sizes, widths, steps, rooms, rfl, hw, by omega, hro, ?_⟩
      repeat' (wtm_at "z")
      refine ⟨by rw [natT_len]; exact sz _ (by omega), ?_⟩
      repeat' (wtm_at "z")
      refine ⟨rfl, ops ++ [op], sizes ++ [z], rooms ++ [op.room rooms], .dat (.int (n : Nat)), .dat op.t, .dat (.int (z : Nat)), ok.snoc z2 z3 hw, by simp [hn], by simp [hr2], fun r hr => ?_, ?_⟩
      · rcases List.mem_append.mp hr with h | h
        · exact hro r h
        · cases List.mem_singleton.mp h
          exact hro2
      · rw [List.map_append, natT_snoc, natT_snoc] <;> rfl
    · rintro g2 es2 ⟨rfl, ops, sizes, rooms, e1, e2, e3, ok, hn, hr2, hro, rfl⟩
      rw [rangeT_len, Int.toNat_natCast] at hn
      have ol := ok.1
      obtain ⟨z, hz, hl⟩ := atI_last (ns := sizes) (by omega)
      repeat' (wtm_at "z")
      refine ⟨_, _, _, rfl, rfl, hl, ?_⟩
      repeat' (wtm_at "z")
      exact hp ops sizes z ok (by omega) (ok.2.1 z hz)
abbrev s_isfalling : Stmt := topS 2
abbrev N_isfalling : List Str := ["operation", "done", "steps", "form"]
theorem sc_isfalling : FnScope ["operation", "done", "steps", "form"] ["operation", "done", "steps"] (defScope s_isfalling) := ⟨rfl, rfl, rfl, by decide +kernel, rfl, by decide +kernel, by decide +kernel⟩
theorem c_isfalling  (D : Dfn K mg "is_falling" s_isfalling) (T : Bls mg)  : Cal P w K mg base 1 "is_falling" ["operation", "done", "steps"] (spD K R [false, true, true] (p_falls R)) := by
  obtain ⟨f, fd, F, hm⟩ := D.ex
  refine ⟨f, fd, F.ok sc_isfalling (spD_len fun ts g post h => ?len) (fun cdv A outer s H vs Q E hr h => ?body), hm, F.kp, F.bindsN fun _ _ _ _ _ _ us hl => match us, hl with | [_, _, _], _ => rfl⟩
  case len =>
    obtain ⟨_, _, _, _, _, _, _, rfl, _⟩ := h
    rfl
  case body =>
    refine ⟨_, PSs.nox (pss_cons (ps_set (i := 3) sc_isfalling.nd rfl (Or.inl rfl) (pe_ix (ixK (K := K)) (pv 0) pe_int (fun _ _ => rfl))) (pss_cons (ps_if (pt_cmpR op_eq (pv 3) pe_str (nomark _)) (pss_one (ps_ret pe_bl)) pss_nil) (pss_cons (ps_if (pt_cmpR op_eq (pv 3) pe_str (nomark _)) (pss_one (ps_ret (pe_ix (ixK (K := K)) (pv 2) (pe_ix (ixK (K := K)) (pv 0) pe_int (fun _ _ => rfl)) (fun _ _ => rfl)))) pss_nil) (pss_cons (ps_if (pt_cmpR (inK (K := K)) (pv 3) (pe_tup (pa_cons pe_str (pa_cons pe_str pa_nil))) (by rfl)) (pss_one (ps_ret (pe_ix (ixK (K := K)) (pv 1) (pe_ix (ixK (K := K)) (pv 0) pe_int (fun _ _ => rfl)) (fun _ _ => rfl)))) pss_nil) (pss_cons (ps_if (pt_cmpR op_eq (pv 3) pe_str (nomark _)) (pss_one (ps_ret (peAnd (K := K) (pe_ix (ixK (K := K)) (pv 1) (pe_ix (ixK (K := K)) (pv 0) pe_int (fun _ _ => rfl)) (fun _ _ => rfl)) (pe_one (pe_ix (ixK (K := K)) (pv 1) (pe_ix (ixK (K := K)) (pv 0) pe_int (fun _ _ => rfl)) (fun _ _ => rfl)))))) pss_nil) (pss_cons (ps_if (pt_cmpR op_eq (pv 3) pe_str (nomark _)) (pss_one (ps_ret (peAnd (K := K) (pe_ix (ixK (K := K)) (pv 1) (pe_ix (ixK (K := K)) (pv 0) pe_int (fun _ _ => rfl)) (fun _ _ => rfl)) (pe_one (pe_ix (ixK (K := K)) (pv 1) (pe_ix (ixK (K := K)) (pv 0) pe_int (fun _ _ => rfl)) (fun _ _ => rfl)))))) pss_nil) (pss_cons (ps_if (pt_cmpR op_eq (pv 3) pe_str (nomark _)) (pss_one (ps_ret (peAnd (K := K) (pe_cmpR op_gt (pe_callB (lenK (K := K)) (by rfl) T.len bt_len (pa_cons (pe_ix (ixK (K := K)) (pv 0) pe_int (fun _ _ => rfl)) pa_nil)) pe_int (nomark _)) (peAnd (K := K) (peNot (K := K) (pe_ix (ixK (K := K)) (pv 0) pe_int (fun _ _ => rfl))) (pe_one (pe_ix (ixK (K := K)) (pv 1) (pe_ix (ixK (K := K)) (pv 0) pe_int (fun _ _ => rfl)) (fun _ _ => rfl))))))) pss_nil) (pss_one (ps_ret pe_bl))))))))), wq_enter h (fun ts g post h => ?l2) fun B ts g post hp => ?_⟩
    case l2 =>
      obtain ⟨_, _, _, _, _, _, _, rfl, _⟩ := h
      exact Nat.le_of_ble_eq_true rfl
    clear h
    obtain ⟨op, z, sizes, widths, ws, done, steps, rfl, hw, hl, hs, hp⟩ := hp
    show wQ _ _ _ _ _ [.dat _, .bor _, .bor _, .any] _ _ _ _
    try dsimp only [cxOf, Cx.wish, Cx.blk]
    cases op
    case group ks ts q =>
      dsimp only [Op.t, Op.wf] at hw ⊢
      have hl' : (sizes.length : Int) = done.length := by rw [hl]
      have hs' : (ws.length : Int) = steps.length := by rw [hs]
      repeat' (wtm_at "z")
      all_goals
        refine (fun (b c : Bool) (e : b = c) (h : post (.bl c) g) => (e ▸ h : post (.bl b) g)) _ _ ?_ hp
        clear hp
        cases ks <;> cases ts <;> simp_all [Op.falls]
    all_goals dsimp only [Op.t, Op.wf] at hw ⊢
    all_goals
      have hl' : (sizes.length : Int) = done.length := by rw [hl]
      have hs' : (ws.length : Int) = steps.length := by rw [hs]
      repeat' (wtm_at "z")
      all_goals
        refine (fun (b c : Bool) (e : b = c) (h : post (.bl c) g) => (e ▸ h : post (.bl b) g)) _ _ ?_ hp
        first
          | rfl
          | decide +kernel
          | (simp_all [Op.falls]; done)
          | trace_state
abbrev s_lawfalls : Stmt := topS 15
abbrev N_lawfalls : List Str := ["operation", "done", "steps", "word"]
theorem sc_lawfalls : FnScope ["operation", "done", "steps", "word"] ["operation", "done", "steps"] (defScope s_lawfalls) := ⟨rfl, rfl, rfl, by decide +kernel, rfl, by decide +kernel, by decide +kernel⟩
theorem c_lawfalls  (D : Dfn K mg "_law_falls" s_lawfalls) (T : Bls mg)  : Cal P w K mg base 1 "_law_falls" ["operation", "done", "steps"] (spD K R [false, true, true] (p_falls R)) := by
  obtain ⟨f, fd, F, hm⟩ := D.ex
  refine ⟨f, fd, F.ok sc_lawfalls (spD_len fun ts g post h => ?len) (fun cdv A outer s H vs Q E hr h => ?body), hm, F.kp, F.bindsN fun _ _ _ _ _ _ us hl => match us, hl with | [_, _, _], _ => rfl⟩
  case len =>
    obtain ⟨_, _, _, _, _, _, _, rfl, _⟩ := h
    rfl
  case body =>
    refine ⟨_, PSs.nox (pss_cons (ps_set (i := 3) sc_lawfalls.nd rfl (Or.inl rfl) (pe_ix (ixK (K := K)) (pv 0) pe_int (fun _ _ => rfl))) (pss_cons (ps_if (pt_cmpR op_eq (pv 3) pe_str (nomark _)) (pss_one (ps_ret pe_bl)) pss_nil) (pss_cons (ps_if (pt_cmpR op_eq (pv 3) pe_str (nomark _)) (pss_one (ps_ret (pe_ix (ixK (K := K)) (pv 2) (pe_ix (ixK (K := K)) (pv 0) pe_int (fun _ _ => rfl)) (fun _ _ => rfl)))) pss_nil) (pss_cons (ps_if (pt_cmpR (inK (K := K)) (pv 3) (pe_tup (pa_cons pe_str (pa_cons pe_str pa_nil))) (by rfl)) (pss_one (ps_ret (pe_ix (ixK (K := K)) (pv 1) (pe_ix (ixK (K := K)) (pv 0) pe_int (fun _ _ => rfl)) (fun _ _ => rfl)))) pss_nil) (pss_cons (ps_if (pt_cmpR op_eq (pv 3) pe_str (nomark _)) (pss_one (ps_ret (peAnd (K := K) (pe_ix (ixK (K := K)) (pv 1) (pe_ix (ixK (K := K)) (pv 0) pe_int (fun _ _ => rfl)) (fun _ _ => rfl)) (pe_one (pe_ix (ixK (K := K)) (pv 1) (pe_ix (ixK (K := K)) (pv 0) pe_int (fun _ _ => rfl)) (fun _ _ => rfl)))))) pss_nil) (pss_cons (ps_if (pt_cmpR op_eq (pv 3) pe_str (nomark _)) (pss_one (ps_ret (peAnd (K := K) (pe_ix (ixK (K := K)) (pv 1) (pe_ix (ixK (K := K)) (pv 0) pe_int (fun _ _ => rfl)) (fun _ _ => rfl)) (pe_one (pe_ix (ixK (K := K)) (pv 1) (pe_ix (ixK (K := K)) (pv 0) pe_int (fun _ _ => rfl)) (fun _ _ => rfl)))))) pss_nil) (pss_one (ps_ret (peAnd (K := K) (pe_cmpR op_eq (pv 3) pe_str (nomark _)) (peAnd (K := K) (pe_cmpR (neDK (K := K) hr.units) (pe_ix (ixK (K := K)) (pv 0) pe_int (fun _ _ => rfl)) (pe_lst pa_nil) (nomark _)) (peAnd (K := K) (pe_cmpR (eqDK (K := K) hr.units) (pe_ix (ixK (K := K)) (pv 0) pe_int (fun _ _ => rfl)) (pe_lst pa_nil) (nomark _)) (pe_one (pe_ix (ixK (K := K)) (pv 1) (pe_ix (ixK (K := K)) (pv 0) pe_int (fun _ _ => rfl)) (fun _ _ => rfl)))))))))))))), wq_enter h (fun ts g post h => ?l2) fun B ts g post hp => ?_⟩
    case l2 =>
      obtain ⟨_, _, _, _, _, _, _, rfl, _⟩ := h
      exact Nat.le_of_ble_eq_true rfl
    clear h
    obtain ⟨op, z, sizes, widths, ws, done, steps, rfl, hw, hl, hs, hp⟩ := hp
    show wQ _ _ _ _ _ [.dat _, .bor _, .bor _, .any] _ _ _ _
    try dsimp only [cxOf, Cx.wish, Cx.blk]
    cases op
    case group ks ts q =>
      dsimp only [Op.t, Op.wf] at hw ⊢
      have hl' : (sizes.length : Int) = done.length := by rw [hl]
      have hs' : (ws.length : Int) = steps.length := by rw [hs]
      obtain ⟨o1, d1⟩ := xs_ok hw.2.1
      obtain ⟨o2, d2⟩ := fs_ok hw.2.2.1
      repeat' (wtm_at "z")
      refine wr_neD o1 (by omega) rfl (by decide) ?_
      rw [eqv_nil]
      repeat' (wtm_at "z")
      · refine wr_eqD o2 (by omega) rfl (by decide) ?_
        rw [eqv_nil]
        repeat' (wtm_at "z")
        all_goals
          refine (fun (b c : Bool) (e : b = c) (h : post (.bl c) g) => (e ▸ h : post (.bl b) g)) _ _ ?_ hp
          clear hp
          cases ks <;> cases ts <;> simp_all [Op.falls]
      all_goals
        refine (fun (b c : Bool) (e : b = c) (h : post (.bl c) g) => (e ▸ h : post (.bl b) g)) _ _ ?_ hp
        clear hp
        cases ks <;> cases ts <;> simp_all [Op.falls]
    all_goals dsimp only [Op.t, Op.wf] at hw ⊢
    all_goals
      have hl' : (sizes.length : Int) = done.length := by rw [hl]
      have hs' : (ws.length : Int) = steps.length := by rw [hs]
      repeat' (wtm_at "z")
      all_goals
        refine (fun (b c : Bool) (e : b = c) (h : post (.bl c) g) => (e ▸ h : post (.bl b) g)) _ _ ?_ hp
        first
          | rfl
          | decide +kernel
          | (simp_all [Op.falls]; done)
          | trace_state
abbrev s_falling : Stmt := topS 3
abbrev N_falling : List Str := ["plans", "steps", "plan", "done", "operation"]
theorem sc_falling : FnScope ["plans", "steps", "plan", "done", "operation"] ["plans"] (defScope s_falling) := ⟨rfl, rfl, rfl, by decide +kernel, rfl, by decide +kernel, by decide +kernel⟩
theorem c_falling  (D : Dfn K mg "falling" s_falling) (T : Bls mg) (C_is_falling : Cal P w K mg base 1 "is_falling" ["operation", "done", "steps"] (spD K R [false, true, true] (p_falls R))) : Cal P w K mg base 2 "falling" ["plans"] (spD K R [false] (p_falling R)) := by
  obtain ⟨f, fd, F, hm⟩ := D.ex
  refine ⟨f, fd, F.ok sc_falling (spD_len fun ts g post h => ?len) (fun cdv A outer s H vs Q E hr h => ?body), hm, F.kp, F.bindsN fun _ _ _ _ _ _ us hl => match us, hl with | [_], _ => rfl⟩
  case len =>
    obtain ⟨_, _, _, rfl, _⟩ := h
    rfl
  case body =>
    refine ⟨_, PSs.nox (pss_cons (ps_set (i := 1) sc_falling.nd rfl (Or.inl rfl) (pe_lst pa_nil)) (pss_cons (ps_for PassesOwn.never rfl (piList (K := K) (pv 0)) (pg_name (i := 2) sc_falling.nd rfl (Or.inl rfl)) (pss_cons (ps_set (i := 3) sc_falling.nd rfl (Or.inl rfl) (pe_lst pa_nil)) (pss_cons (ps_for PassesOwn.never rfl (piList (K := K) (pv 2)) (pg_name (i := 4) sc_falling.nd rfl (Or.inl rfl)) (pss_one (ps_expr (pe_bm PySem.F.plainAttrs_list PySem.F.slot_list_append PySem.F.type_list_append mt_append (pv 3) (pa_cons (pe_cal C_is_falling hr (by decide) rfl (pa_cons (pv 4) (pa_cons (pv 3) (pa_cons (pv 1) pa_nil)))) pa_nil))))) (pss_one (ps_expr (pe_bm PySem.F.plainAttrs_list PySem.F.slot_list_append PySem.F.type_list_append mt_append (pv 1) (pa_cons (pe_callB (allK (K := K)) (by rfl) T.all bt_all (pa_cons (pv 3) pa_nil)) pa_nil))))))) (pss_one (ps_ret (pv 1))))), wq_enter h (fun ts g post h => ?l2) fun B ts g post hp => ?_⟩
    case l2 =>
      obtain ⟨_, _, _, rfl, _⟩ := h
      exact Nat.le_of_ble_eq_true rfl
    clear h
    obtain ⟨pls, widths, zs, rfl, ok, hl, hp⟩ := hp
    show wQ _ _ _ _ _ [.dat _, .any, .any, .any, .any] _ _ _ _
    try dsimp only [cxOf, Cx.wish, Cx.blk]
    have sz : ∀ k, k ≤ 7 → k < sizeLine := fun k h => Nat.lt_of_le_of_lt h (by decide)
    refine wq_seq (wq_setL (wa_nil ⟨Nat.zero_le _, ?_⟩))
    refine wq_seq (wq_for (tgt_name 2 [2] (List.mem_singleton.mpr rfl)) (wi_list (we_var rfl ⟨_, rfl, ?_⟩)))
    refine ⟨fun n g2 es2 => g2 = g ∧ ∃ e1 e2 e3 : Ent, es2 = [.dat (.lst (pls.map planT)), .lst (blT (fallsAll (pls.take n))), e1, e2, e3], ⟨rfl, .any, .any, .any, rfl⟩, ?_, ?_⟩
    · rintro n x g2 es2 hx ⟨rfl, e1, e2, e3, rfl⟩
      obtain ⟨ops, hops, rfl⟩ := map_get hx
      obtain ⟨⟨sizes, po⟩, ol⟩ := ok.2.2 n ops hops
      have hn : n < pls.length := (List.getElem?_eq_some_iff.mp hops).1
      have fs : fallsAll (pls.take (n + 1)) = fallsAll (pls.take n) ++ [(doneOf (fallsAll (pls.take n)) ops).all id] := fallsAll_snoc hops
      have fl : (fallsAll (pls.take n)).length = n := by
        rw [fallsAll_len, List.length_take]
        omega
      dsimp only
      rw [fs]
      generalize fallsAll (pls.take n) = steps at fl
      refine ⟨_, rfl, ?_⟩
      refine wq_seq (wq_setL (wa_nil ⟨Nat.zero_le _, ?_⟩))
      refine wq_seq (wq_for (tgt_name 4 [4] (List.mem_singleton.mpr rfl)) (wi_list (we_var rfl ⟨_, rfl, ?_⟩)))
      refine ⟨fun m g2' es2 => g2' = g2 ∧ ∃ e3 : Ent, es2 = [.dat (.lst (pls.map planT)), .lst (blT steps), .dat (planT ops), .lst (blT (doneOf steps (ops.take m))), e3], ⟨rfl, _, rfl⟩, ?_, ?_⟩
      · rintro m x g3 es3 hx ⟨rfl, e3, rfl⟩
        obtain ⟨op, hop, rfl⟩ := map_get hx
        have hm : m < ops.length := (List.getElem?_eq_some_iff.mp hop).1
        have ds : doneOf steps (ops.take (m + 1)) = doneOf steps (ops.take m) ++ [op.falls (doneOf steps (ops.take m)) steps] := doneOf_snoc hop
        have dl : (doneOf steps (ops.take m)).length = m := by
          rw [doneOf_len, List.length_take]
          omega
        dsimp only
        rw [ds]
        generalize doneOf steps (ops.take m) = done at dl
        have hs : m < sizes.length := by
          have := po.1
          omega
        have wf := po.2.2 m op sizes[m] hop (List.getElem?_eq_getElem hs)
        refine ⟨_, rfl, ?_⟩
        repeat' (wtm_at "z")
        refine ⟨op, _, _, _, _, done, steps, rfl, wf, by rw [List.length_take]; omega, by rw [List.length_take, ← ok.1]; omega, ?_⟩
        repeat' (wtm_at "z")
        refine ⟨by rw [List.length_map, dl]; exact sz _ (by omega), ?_⟩
        repeat' (wtm_at "z")
        refine ⟨rfl, .dat op.t, ?_⟩
        rw [blT_snoc] <;> rfl
      · rintro g3 es3 ⟨rfl, e3, rfl⟩
        rw [List.length_map, List.take_length]
        repeat' (wtm_at "z")
        refine ⟨by rw [List.length_map, fl]; exact sz _ (by omega), rfl, .dat (planT ops), .lst (blT (doneOf steps ops)), e3, ?_⟩
        rw [blT_snoc] <;> rfl
    · rintro g2 es2 ⟨rfl, e1, e2, e3, rfl⟩
      rw [List.length_map, List.take_length]
      repeat' (wtm_at "z")
      exact hp
abbrev s_uses : Stmt := topS 1
abbrev N_uses : List Str := ["plan", "tables", "steps", "operation"]
theorem sc_uses : FnScope ["plan", "tables", "steps", "operation"] ["plan"] (defScope s_uses) := ⟨rfl, rfl, rfl, by decide +kernel, rfl, by decide +kernel, by decide +kernel⟩
theorem c_uses  (D : Dfn K mg "uses" s_uses) (T : Bls mg)  : Cal P w K mg base 1 "uses" ["plan"] (spD K R [false] (p_uses R)) := by
  obtain ⟨f, fd, F, hm⟩ := D.ex
  refine ⟨f, fd, F.ok sc_uses (spD_len fun ts g post h => ?len) (fun cdv A outer s H vs Q E hr h => ?body), hm, F.kp, F.bindsN fun _ _ _ _ _ _ us hl => match us, hl with | [_], _ => rfl⟩
  case len =>
    obtain ⟨_, rfl, _⟩ := h
    rfl
  case body =>
    refine ⟨_, PSs.nox (pss_cons (ps_setDc (i := 1) (own := [("operation", 3)]) rfl sc_uses.nd rfl rfl (sw_trueD rfl rfl rfl (by decide +kernel)) (piList (K := K) (pv 0)) (blkOk_by (N := N_uses) (sc := defScope s_uses) (own := [("operation", 3)]) (by decide +kernel)) (fun _ _ _ _ _ => (pg_name (i := 3) sc_uses.nd rfl (Or.inl rfl))) (fun _ _ _ _ _ => (pts_one (pt_cmpR op_eq (pe_ix (ixK (K := K)) (pv 3) pe_int (fun _ _ => rfl)) pe_str (nomark _)))) (fun _ _ _ _ _ => (pe_ix (ixK (K := K)) (pv 3) pe_int (fun _ _ => rfl))) (fun _ _ _ _ _ => pe_bl)) (pss_cons (ps_setDc (i := 2) (own := [("operation", 3)]) rfl sc_uses.nd rfl rfl (sw_trueD rfl rfl rfl (by decide +kernel)) (piList (K := K) (pv 0)) (blkOk_by (N := N_uses) (sc := defScope s_uses) (own := [("operation", 3)]) (by decide +kernel)) (fun _ _ _ _ _ => (pg_name (i := 3) sc_uses.nd rfl (Or.inl rfl))) (fun _ _ _ _ _ => (pts_one (pt_cmpR op_eq (pe_ix (ixK (K := K)) (pv 3) pe_int (fun _ _ => rfl)) pe_str (nomark _)))) (fun _ _ _ _ _ => (pe_ix (ixK (K := K)) (pv 3) pe_int (fun _ _ => rfl))) (fun _ _ _ _ _ => pe_bl)) (pss_one (ps_ret (pe_tup (pa_cons (pe_callB (sortIK (K := K)) (by rfl) T.sorted bt_sorted (pa_cons (pe_callTy (call_listD rfl) (by rfl) T.list bt_list (pa_cons (pv 1) pa_nil)) pa_nil)) (pa_cons (pe_callB (sortIK (K := K)) (by rfl) T.sorted bt_sorted (pa_cons (pe_callTy (call_listD rfl) (by rfl) T.list bt_list (pa_cons (pv 2) pa_nil)) pa_nil)) pa_nil))))))), wq_enter h (fun ts g post h => ?l2) fun B ts g post hp => ?_⟩
    case l2 =>
      obtain ⟨_, rfl, _⟩ := h
      exact Nat.le_of_ble_eq_true rfl
    clear h
    obtain ⟨ops, rfl, h7, hp⟩ := hp
    show wQ _ _ _ _ _ [.dat _, .any, .any, .any] _ _ _ _
    try dsimp only [cxOf, Cx.wish, Cx.blk]
    refine wq_seq (wq_set (we_dcRefs (b := true) rfl h7 (Nat.le_of_ble_eq_true rfl) (noOwn1 rfl rfl) (fun _ => .bl _) fun ns acc nd hl hm hk => ?_))
    refine wq_seq (wq_set (we_dcRefs (b := false) rfl h7 (Nat.le_of_ble_eq_true rfl) (noOwn1 rfl rfl) (fun _ => .bl _) fun ns2 acc2 nd2 hl2 hm2 hk2 => ?_))
    have e1 : acc.map (fun kv => keyT kv.1) = ns.map Zc.T.int := by
      have := congrArg (List.map keyT) hk
      rw [List.map_map, List.map_map] at this
      exact this
    have e2 : acc2.map (fun kv => keyT kv.1) = ns2.map Zc.T.int := by
      have := congrArg (List.map keyT) hk2
      rw [List.map_map, List.map_map] at this
      exact this
    repeat' (wtm_at "z")
    rw [e1]
    refine wc_sortI fun as p1 s1 => ?_
    repeat' (wtm_at "z")
    rw [e2]
    refine wc_sortI fun bs p2 s2 => ?_
    repeat' (wtm_at "z")
    exact hp as bs (by rw [p1.length_eq]; omega) (by rw [p2.length_eq]; omega) ⟨asc_of p1 s1 nd, fun k => p1.mem_iff.trans (hm k)⟩ ⟨asc_of p2 s2 nd2, fun k => p2.mem_iff.trans (hm2 k)⟩
abbrev s_named : Stmt := topS 14
abbrev N_named : List Str := ["plan", "word", "operation"]
theorem sc_named : FnScope ["plan", "word", "operation"] ["plan", "word"] (defScope s_named) := ⟨rfl, rfl, rfl, by decide +kernel, rfl, by decide +kernel, by decide +kernel⟩
theorem c_named  (D : Dfn K mg "_law_named" s_named) (T : Bls mg)  : Cal P w K mg base 1 "_law_named" ["plan", "word"] (spD K R [false, false] (p_named R)) := by
  obtain ⟨f, fd, F, hm⟩ := D.ex
  refine ⟨f, fd, F.ok sc_named (spD_len fun ts g post h => ?len) (fun cdv A outer s H vs Q E hr h => ?body), hm, F.kp, F.bindsN fun _ _ _ _ _ _ us hl => match us, hl with | [_, _], _ => rfl⟩
  case len =>
    obtain ⟨_, _, rfl, _⟩ := h
    rfl
  case body =>
    refine ⟨_, PSs.nox (pss_one (ps_ret (pe_callB (sortSK (w := w)) (by rfl) T.sorted bt_sorted (pa_cons (pe_callTy (setLK (K := K) (w := w)) (by rfl) T.set bt_set (pa_cons (pe_lc (own := [("operation", 2)]) rfl sc_named.nd (piList (K := K) (pv 0)) (blkOk_by (N := N_named) (sc := defScope s_named) (own := [("operation", 2)]) (by decide +kernel)) (fun _ _ _ _ _ => (pg_name (i := 2) sc_named.nd rfl (Or.inl rfl))) (fun _ _ _ _ _ => (pts_one (pt_cmpR op_eq (pe_ix (ixK (K := K)) (pv 2) pe_int (fun _ _ => rfl)) (pv 1) (nomark _)))) (fun _ _ _ _ _ => (pe_ix (ixK (K := K)) (pv 2) pe_int (fun _ _ => rfl)))) pa_nil)) pa_nil)))), wq_enter h (fun ts g post h => ?l2) fun B ts g post hp => ?_⟩
    case l2 =>
      obtain ⟨_, _, rfl, _⟩ := h
      exact Nat.le_of_ble_eq_true rfl
    clear h
    obtain ⟨ops, b, rfl, h7, hp⟩ := hp
    show wQ _ _ _ _ _ [.dat _, .dat _, .any] _ _ _ _
    try dsimp only [cxOf, Cx.wish, Cx.blk]
    refine wq_ret (we_sortSet (we_lcRefs rfl rfl (by decide) h7 (Nat.le_of_ble_eq_true rfl) (noOwn1 rfl rfl) ⟨_, rfl, ?_, fun ms m1 m2 => hp ms ⟨m1, m2⟩⟩))
    exact Nat.lt_of_le_of_lt (Nat.le_trans refs_le h7) (by decide)
abbrev s_same : Stmt := topS 7
abbrev N_same : List Str := ["actual", "due", "k"]
theorem sc_same : FnScope ["actual", "due", "k"] ["actual", "due"] (defScope s_same) := ⟨rfl, rfl, rfl, by decide +kernel, rfl, by decide +kernel, by decide +kernel⟩
theorem c_same (D : Dfn K mg "_law_same" s_same) (T : Bls mg) :
    ∀ d : Nat, Cal P w K mg base (d + 1) "_law_same" ["actual", "due"] (spD K R [false, false] (p_same R d)) := by
  obtain ⟨f, fd, F, hm⟩ := D.ex
  intro d
  induction d with
  | zero =>
    have C_law_same : Cal P w K mg base 0 "_law_same" ["actual", "due"] (spD K R [false, false] fun _ _ _ => False) :=
      ⟨f, fd, ⟨fun vs H Q E ⟨_, _, _, _, _, _, h, _⟩ => h.elim, fun _ _ _ _ _ _ _ _ _ _ _ _ _ ⟨_, _, _, _, _, _, h, _⟩ => h.elim⟩, hm, F.kp, F.bindsN fun _ _ _ _ _ _ us hl => match us, hl with | [_, _], _ => rfl⟩
    refine ⟨f, fd, F.ok sc_same (spD_len fun ts g post h => ?len) (fun cdv A outer s H vs Q E hr h => ?body), hm, F.kp, F.bindsN fun _ _ _ _ _ _ us hl => match us, hl with | [_, _], _ => rfl⟩
    case len =>
      obtain ⟨_, rfl, _⟩ := h
      rfl
    refine ⟨_, PSs.nox (pss_cons (ps_if (ptTru (K := K) (pe_callB (isiTK (K := K)) (by rfl) T.isinstance bt_isinstance (pa_cons (pv 1) (pa_cons (pe_tup (pa_cons (pe_bltn (v := .ty "list") (by rfl) T.list bt_list rfl) (pa_cons (pe_bltn (v := .ty "tuple") (by rfl) T.tuple bt_tuple rfl) pa_nil))) pa_nil)))) (pss_cons (ps_if (PW.pt (pw_or (pt_cmpR op_ne (pe_callB (isiK (K := K)) (by rfl) T.isinstance bt_isinstance (pa_cons (pv 1) (pa_cons (pe_bltn (v := .ty "list") (by rfl) T.list bt_list rfl) pa_nil))) (pe_callB (isiK (K := K)) (by rfl) T.isinstance bt_isinstance (pa_cons (pv 0) (pa_cons (pe_bltn (v := .ty "list") (by rfl) T.list bt_list rfl) pa_nil))) (nomark _)) (pw_or1 (pt_cmpR op_ne (pe_callB (isiK (K := K)) (by rfl) T.isinstance bt_isinstance (pa_cons (pv 1) (pa_cons (pe_bltn (v := .ty "tuple") (by rfl) T.tuple bt_tuple rfl) pa_nil))) (pe_callB (isiK (K := K)) (by rfl) T.isinstance bt_isinstance (pa_cons (pv 0) (pa_cons (pe_bltn (v := .ty "tuple") (by rfl) T.tuple bt_tuple rfl) pa_nil))) (nomark _))))) (pss_one (ps_ret pe_bl)) pss_nil) (pss_cons (ps_if (pt_cmpR op_ne (pe_callB (lenK (K := K)) (by rfl) T.len bt_len (pa_cons (pv 0) pa_nil)) (pe_callB (lenK (K := K)) (by rfl) T.len bt_len (pa_cons (pv 1) pa_nil)) (nomark _)) (pss_one (ps_ret pe_bl)) pss_nil) (pss_one (ps_ret (pe_callB (allK (K := K)) (by rfl) T.all bt_all (pa_cons (pe_lc (own := [("k", 2)]) rfl sc_same.nd (pi_range1 (by rfl) T.range (pa_cons (pe_callB (lenK (K := K)) (by rfl) T.len bt_len (pa_cons (pv 1) pa_nil)) pa_nil)) (blkOk_by (N := N_same) (sc := defScope s_same) (own := [("k", 2)]) (by decide +kernel)) (fun _ _ _ _ _ => (pg_name (i := 2) sc_same.nd rfl (Or.inl rfl))) (fun _ _ _ _ _ => pts_nil) (fun _ _ _ _ _ => (pe_cal C_law_same hr (by decide) rfl (pa_cons (pe_ix (ixK (K := K)) (pv 0) (pv 2) (fun _ _ => rfl)) (pa_cons (pe_ix (ixK (K := K)) (pv 1) (pv 2) (fun _ _ => rfl)) pa_nil))))) pa_nil)))))) pss_nil) (pss_cons (ps_if (pt_cmpR op_isN (pv 1) pe_non (nomark _)) (pss_one (ps_ret (pe_cmpR op_isN (pv 0) pe_non (nomark _)))) pss_nil) (pss_cons (ps_if (pt_cmpR op_ne (pe_callB (isiK (K := K)) (by rfl) T.isinstance bt_isinstance (pa_cons (pv 1) (pa_cons (pe_bltn (v := .ty "bool") (by rfl) T.bool bt_bool rfl) pa_nil))) (pe_callB (isiK (K := K)) (by rfl) T.isinstance bt_isinstance (pa_cons (pv 0) (pa_cons (pe_bltn (v := .ty "bool") (by rfl) T.bool bt_bool rfl) pa_nil))) (nomark _)) (pss_one (ps_ret pe_bl)) pss_nil) (pss_cons (ps_if (ptTru (K := K) (pe_callB (isiK (K := K)) (by rfl) T.isinstance bt_isinstance (pa_cons (pv 1) (pa_cons (pe_bltn (v := .ty "str") (by rfl) T.str bt_str rfl) pa_nil)))) (pss_one (ps_ret (peAnd (K := K) (pe_callB (isiK (K := K)) (by rfl) T.isinstance bt_isinstance (pa_cons (pv 0) (pa_cons (pe_bltn (v := .ty "str") (by rfl) T.str bt_str rfl) pa_nil))) (pe_one (pe_cmpR op_eq (pv 0) (pv 1) (nomark _)))))) pss_nil) (pss_one (ps_ret (peAnd (K := K) (pe_callB (isiK (K := K)) (by rfl) T.isinstance bt_isinstance (pa_cons (pv 0) (pa_cons (pe_bltn (v := .ty "int") (by rfl) T.int bt_int rfl) pa_nil))) (pe_one (pe_cmpR op_eq (pv 0) (pv 1) (nomark _)))))))))), wq_enter h (fun ts g post h => ?l2) fun B ts g post hp => ?_⟩
    case l2 =>
      obtain ⟨_, rfl, _⟩ := h
      exact Nat.le_of_ble_eq_true rfl
    clear h
    obtain ⟨t, rfl, ht, hp⟩ := hp
    show wQ _ _ _ _ _ [.dat _, .dat _, .any] _ _ _ _
    try dsimp only [cxOf, Cx.wish, Cx.blk]
    cases t <;> first | (cases ht; done) | skip
    all_goals
      repeat' (wtm_at "z")
    all_goals (simpa using hp)
  | succ d ih =>
    have C_law_same := ih
    refine ⟨f, fd, F.ok sc_same (spD_len fun ts g post h => ?lenS) (fun cdv A outer s H vs Q E hr h => ?bodyS), hm, F.kp, F.bindsN fun _ _ _ _ _ _ us hl => match us, hl with | [_, _], _ => rfl⟩
    case lenS =>
      obtain ⟨_, rfl, _⟩ := h
      rfl
    refine ⟨_, PSs.nox (pss_cons (ps_if (ptTru (K := K) (pe_callB (isiTK (K := K)) (by rfl) T.isinstance bt_isinstance (pa_cons (pv 1) (pa_cons (pe_tup (pa_cons (pe_bltn (v := .ty "list") (by rfl) T.list bt_list rfl) (pa_cons (pe_bltn (v := .ty "tuple") (by rfl) T.tuple bt_tuple rfl) pa_nil))) pa_nil)))) (pss_cons (ps_if (PW.pt (pw_or (pt_cmpR op_ne (pe_callB (isiK (K := K)) (by rfl) T.isinstance bt_isinstance (pa_cons (pv 1) (pa_cons (pe_bltn (v := .ty "list") (by rfl) T.list bt_list rfl) pa_nil))) (pe_callB (isiK (K := K)) (by rfl) T.isinstance bt_isinstance (pa_cons (pv 0) (pa_cons (pe_bltn (v := .ty "list") (by rfl) T.list bt_list rfl) pa_nil))) (nomark _)) (pw_or1 (pt_cmpR op_ne (pe_callB (isiK (K := K)) (by rfl) T.isinstance bt_isinstance (pa_cons (pv 1) (pa_cons (pe_bltn (v := .ty "tuple") (by rfl) T.tuple bt_tuple rfl) pa_nil))) (pe_callB (isiK (K := K)) (by rfl) T.isinstance bt_isinstance (pa_cons (pv 0) (pa_cons (pe_bltn (v := .ty "tuple") (by rfl) T.tuple bt_tuple rfl) pa_nil))) (nomark _))))) (pss_one (ps_ret pe_bl)) pss_nil) (pss_cons (ps_if (pt_cmpR op_ne (pe_callB (lenK (K := K)) (by rfl) T.len bt_len (pa_cons (pv 0) pa_nil)) (pe_callB (lenK (K := K)) (by rfl) T.len bt_len (pa_cons (pv 1) pa_nil)) (nomark _)) (pss_one (ps_ret pe_bl)) pss_nil) (pss_one (ps_ret (pe_callB (allK (K := K)) (by rfl) T.all bt_all (pa_cons (pe_lc (own := [("k", 2)]) rfl sc_same.nd (pi_range1 (by rfl) T.range (pa_cons (pe_callB (lenK (K := K)) (by rfl) T.len bt_len (pa_cons (pv 1) pa_nil)) pa_nil)) (blkOk_by (N := N_same) (sc := defScope s_same) (own := [("k", 2)]) (by decide +kernel)) (fun _ _ _ _ _ => (pg_name (i := 2) sc_same.nd rfl (Or.inl rfl))) (fun _ _ _ _ _ => pts_nil) (fun _ _ _ _ _ => (pe_cal C_law_same hr (by omega) rfl (pa_cons (pe_ix (ixK (K := K)) (pv 0) (pv 2) (fun _ _ => rfl)) (pa_cons (pe_ix (ixK (K := K)) (pv 1) (pv 2) (fun _ _ => rfl)) pa_nil))))) pa_nil)))))) pss_nil) (pss_cons (ps_if (pt_cmpR op_isN (pv 1) pe_non (nomark _)) (pss_one (ps_ret (pe_cmpR op_isN (pv 0) pe_non (nomark _)))) pss_nil) (pss_cons (ps_if (pt_cmpR op_ne (pe_callB (isiK (K := K)) (by rfl) T.isinstance bt_isinstance (pa_cons (pv 1) (pa_cons (pe_bltn (v := .ty "bool") (by rfl) T.bool bt_bool rfl) pa_nil))) (pe_callB (isiK (K := K)) (by rfl) T.isinstance bt_isinstance (pa_cons (pv 0) (pa_cons (pe_bltn (v := .ty "bool") (by rfl) T.bool bt_bool rfl) pa_nil))) (nomark _)) (pss_one (ps_ret pe_bl)) pss_nil) (pss_cons (ps_if (ptTru (K := K) (pe_callB (isiK (K := K)) (by rfl) T.isinstance bt_isinstance (pa_cons (pv 1) (pa_cons (pe_bltn (v := .ty "str") (by rfl) T.str bt_str rfl) pa_nil)))) (pss_one (ps_ret (peAnd (K := K) (pe_callB (isiK (K := K)) (by rfl) T.isinstance bt_isinstance (pa_cons (pv 0) (pa_cons (pe_bltn (v := .ty "str") (by rfl) T.str bt_str rfl) pa_nil))) (pe_one (pe_cmpR op_eq (pv 0) (pv 1) (nomark _)))))) pss_nil) (pss_one (ps_ret (peAnd (K := K) (pe_callB (isiK (K := K)) (by rfl) T.isinstance bt_isinstance (pa_cons (pv 0) (pa_cons (pe_bltn (v := .ty "int") (by rfl) T.int bt_int rfl) pa_nil))) (pe_one (pe_cmpR op_eq (pv 0) (pv 1) (nomark _)))))))))), wq_enter h (fun ts g post h => ?l2S) fun B ts g post hp => ?_⟩
    case l2S =>
      obtain ⟨_, rfl, _⟩ := h
      exact Nat.le_of_ble_eq_true rfl
    clear h
    obtain ⟨t, rfl, ht, hp⟩ := hp
    show wQ _ _ _ _ _ [.dat _, .dat _, .any] _ _ _ _
    try dsimp only [cxOf, Cx.wish, Cx.blk]
    cases t <;> first | (cases ht; done) | skip
    all_goals
      repeat' (wtm_at "z")
    all_goals first
      | (simpa using hp; done)
      | (exact absurd rfl (by assumption))
      | skip
    all_goals
      obtain ⟨hp1, hp2⟩ := (Bool.and_eq_true _ _).mp (show (plains d _ && decide _) = true from ht)
      have hp2 := of_decide_eq_true hp2
      refine we_lcN (fun y => y = .bl true) ?_
      repeat' (wtm_at "z")
      refine ⟨by omega, noOwn1 rfl rfl, fun k hk => ?_, fun ys hl hy => ?_⟩
      · obtain ⟨t, ht1, ht2⟩ := ix_at hk
        repeat' (wtm_at "z")
        refine ⟨t, ht1, ?_⟩
        repeat' (wtm_at "z")
        refine ⟨t, ht1, ?_⟩
        repeat' (wtm_at "z")
        exact ⟨plains_mem hp1 ht2, rfl, rfl, rfl⟩
      · have e := all_bl hy
        generalize ys.length = n at e
        subst e
        repeat' (wtm_at "z")
        rw [all_rep]
        exact hp
abbrev s_draw : Stmt := topS 5
abbrev N_draw : List Str := ["script"]
theorem sc_draw : FnScope ["script"] ["script"] (defScope s_draw) := ⟨rfl, rfl, rfl, by decide +kernel, rfl, by decide +kernel, by decide +kernel⟩
def spDraw (K : PySem.W.Frag) : Sp := fun vs H Q _ => ∃ (p : Addr) (ns : List Int), vs = [.ref p] ∧ SqL K H p (ns.map V.int) ∧ ∀ s a, H s = none → (upd H s (.lst (ns.map V.int))) a = none → a ≠ s → Q (.ref a) (upd (upd H s (.lst (ns.map V.int))) a (.lst [.ref s, .int 0, .int 0, .int 17]))
theorem c_draw (D : Dfn K mg "_law_draw" s_draw) (T : Bls mg) : Cal P w K mg base 1 "_law_draw" ["script"] (spDraw K) := by
  obtain ⟨f, fd, F, hm⟩ := D.ex
  refine ⟨f, fd, F.ok sc_draw (fun vs H Q E h => ?len) (fun cdv A outer s H vs Q E hr h => ?body), hm, F.kp, F.bindsN fun _ _ _ _ _ _ us hl => match us, hl with | [_], _ => rfl⟩
  case len =>
    obtain ⟨_, _, rfl, _⟩ := h
    rfl
  refine ⟨_, PSs.nox (pss_one (ps_ret (pe_lst (pa_cons (pe_callTy (listK (K := K)) (by rfl) T.list bt_list (pa_cons (pv 0) pa_nil)) (pa_cons pe_int (pa_cons pe_int (pa_cons pe_int pa_nil))))))), ?_⟩
  obtain ⟨p, ns, rfl, hS, hQ⟩ := h
  refine ⟨_, rfl, p, _, rfl, .inl hS, fun l hl => ⟨Nat.le_of_ble_eq_true rfl, fun a ha => hQ l a hl ha ?_⟩⟩
  rintro rfl
  rw [upd_same] at ha
  cases ha
abbrev s_law : Stmt := topS 16
abbrev N_law : List Str := ["script", "draw", "widths", "plans", "sizes", "due", "k", "plan", "size", "done", "operation"]
theorem sc_law : FnScope ["script", "draw", "widths", "plans", "sizes", "due", "k", "plan", "size", "done", "operation"] ["script"] (defScope s_law) := ⟨rfl, rfl, rfl, by decide +kernel, rfl, by decide +kernel, by decide +kernel⟩
def spLaw (K : PySem.W.Frag) : Sp := fun vs H Q _ => ∃ (a : Addr) (ns : List Int), vs = [.ref a] ∧ SqL K H a (ns.map V.int) ∧ ∀ H', Q (.bl true) H'
theorem pss_ex {ι : Type} {X : Cx} {st : List Stmt} {t : ι → TS} (h : ∀ i, PSs X st (t i)) : PSs X st (fun D σ H => ∃ i, t i D σ H) := ⟨fun pins s σ H D I ⟨i, q⟩ => (h i).run pins s σ H D I q⟩
theorem ok_law {f : Addr} {fd : FuncData} (F : FunD K "law" "law" (defArgs s_law) (defBody s_law) (defScope s_law) [] [] f fd) (T : Bls mg) (C_law_draw : Cal P w K mg base 1 "_law_draw" ["script"] (spDraw K)) (C_law_next : ∀ a s ns, Cal P w K mg base 1 "_law_next" ["draw", "many"] (spD K (Rdraw a s ns) [false, false] (p_next (Rdraw a s ns) a))) (C_law_plan : ∀ a s ns, Cal P w K mg base 7 "_law_plan" ["draw", "widths", "steps", "most"] (spD K (Rdraw a s ns) [false, true, true, false] (p_plan (Rdraw a s ns) a))) (C_uses : ∀ a s ns, Cal P w K mg base 1 "uses" ["plan"] (spD K (Rdraw a s ns) [false] (p_uses (Rdraw a s ns)))) (C_falling : ∀ a s ns, Cal P w K mg base 2 "falling" ["plans"] (spD K (Rdraw a s ns) [false] (p_falling (Rdraw a s ns)))) (C_law_named : ∀ a s ns, Cal P w K mg base 1 "_law_named" ["plan", "word"] (spD K (Rdraw a s ns) [false, false] (p_named (Rdraw a s ns)))) (C_law_falls : ∀ a s ns, Cal P w K mg base 1 "_law_falls" ["operation", "done", "steps"] (spD K (Rdraw a s ns) [false, true, true] (p_falls (Rdraw a s ns)))) (C_law_same : ∀ a s ns, Cal P w K mg base 3 "_law_same" ["actual", "due"] (spD K (Rdraw a s ns) [false, false] (p_same (Rdraw a s ns) 2))) : FnOk P w K mg base CX0 8 f fd ["script"] (spLaw K) := by
  refine F.ok sc_law (fun vs H Q E h => ?len) (fun cdv A outer s H vs Q E hr h => ?body)
  case len =>
    obtain ⟨_, _, rfl, _⟩ := h
    rfl
  refine ⟨_, PSs.nox (pss_cons (ps_set (i := 1) sc_law.nd rfl (Or.inl rfl) (pe_cal C_law_draw hr (by decide) rfl (pa_cons (pv 0) pa_nil))) (pss_ex fun a => pss_ex fun s => pss_ex fun ns => (pss_cons (ps_set (i := 2) sc_law.nd rfl (Or.inl rfl) (pe_lst (pa_cons (pe_op op_add pe_int (pe_cal (C_law_next a s ns) hr (by decide) rfl (pa_cons (pv 1) (pa_cons pe_int pa_nil)))) (pa_cons (pe_op op_add pe_int (pe_cal (C_law_next a s ns) hr (by decide) rfl (pa_cons (pv 1) (pa_cons pe_int pa_nil)))) pa_nil)))) (pss_cons (ps_set (i := 3) sc_law.nd rfl (Or.inl rfl) (pe_lst pa_nil)) (pss_cons (ps_set (i := 4) sc_law.nd rfl (Or.inl rfl) (pe_lst pa_nil)) (pss_cons (ps_set (i := 5) sc_law.nd rfl (Or.inl rfl) (pe_lst pa_nil)) (pss_cons (ps_for PassesOwn.never rfl (pi_range1 (by rfl) T.range (pa_cons (pe_op op_add pe_int (pe_cal (C_law_next a s ns) hr (by decide) rfl (pa_cons (pv 1) (pa_cons pe_int pa_nil)))) pa_nil)) (pg_name (i := 6) sc_law.nd rfl (Or.inl rfl)) (pss_cons (ps_asg (pe_cal (C_law_plan a s ns) hr (by decide) rfl (pa_cons (pv 1) (pa_cons (pv 2) (pa_cons (pv 4) (pa_cons pe_int pa_nil))))) (pgTup (K := K) rfl (pgs_cons (pg_name (i := 7) sc_law.nd rfl (Or.inl rfl)) (pgs_cons (pg_name (i := 8) sc_law.nd rfl (Or.inl rfl)) pgs_nil)))) (pss_cons (ps_expr (pe_bm PySem.F.plainAttrs_list PySem.F.slot_list_append PySem.F.type_list_append mt_append (pv 3) (pa_cons (pv 7) pa_nil))) (pss_cons (ps_expr (pe_bm PySem.F.plainAttrs_list PySem.F.slot_list_append PySem.F.type_list_append mt_append (pv 4) (pa_cons (pv 8) pa_nil))) (pss_cons (ps_set (i := 9) sc_law.nd rfl (Or.inl rfl) (pe_lst pa_nil)) (pss_cons (ps_for PassesOwn.never rfl (piList (K := K) (pv 7)) (pg_name (i := 10) sc_law.nd rfl (Or.inl rfl)) (pss_one (ps_expr (pe_bm PySem.F.plainAttrs_list PySem.F.slot_list_append PySem.F.type_list_append mt_append (pv 9) (pa_cons (pe_cal (C_law_falls a s ns) hr (by decide) rfl (pa_cons (pv 10) (pa_cons (pv 9) (pa_cons (pv 5) pa_nil)))) pa_nil))))) (pss_cons (ps_expr (pe_bm PySem.F.plainAttrs_list PySem.F.slot_list_append PySem.F.type_list_append mt_append (pv 5) (pa_cons (pe_callB (allK (K := K)) (by rfl) T.all bt_all (pa_cons (pv 9) pa_nil)) pa_nil))) (pss_one (ps_if (pt_not (ptTru (K := K) (pe_cal (C_law_same a s ns) hr (by decide) rfl (pa_cons (pe_cal (C_uses a s ns) hr (by decide) rfl (pa_cons (pv 7) pa_nil)) (pa_cons (pe_tup (pa_cons (pe_cal (C_law_named a s ns) hr (by decide) rfl (pa_cons (pv 7) (pa_cons pe_str pa_nil))) (pa_cons (pe_cal (C_law_named a s ns) hr (by decide) rfl (pa_cons (pv 7) (pa_cons pe_str pa_nil))) pa_nil))) pa_nil))))) (pss_one (ps_ret pe_bl)) pss_nil))))))))) (pss_one (ps_ret (pe_cal (C_law_same a s ns) hr (by decide) rfl (pa_cons (pe_cal (C_falling a s ns) hr (by decide) rfl (pa_cons (pv 3) pa_nil)) (pa_cons (pv 5) pa_nil)))))))))))), ?_⟩
  obtain ⟨p, ns, rfl, hS, hQ⟩ := h
  refine ⟨_, rfl, p, ns, rfl, hS, fun s a hs ha hne => ⟨a, s, ns, ?_⟩⟩
  have i0 : (Rdraw a s ns).I () (fun _ => none) (upd (upd H s (.lst (ns.map V.int))) a (.lst [.ref s, .int 0, .int 0, .int 17])) := ⟨fun _ _ e => (by cases e), fun _ _ => rfl, 0, 0, 17, upd_same, (upd_ne (Ne.symm hne)).trans upd_same, hne, Int.le_refl _⟩
  generalize upd (upd H s (.lst (ns.map V.int))) a (.lst [.ref s, .int 0, .int 0, .int 17]) = H1 at i0 ⊢
  have ok : Ok K (Rdraw a s ns) ⟨(), fun _ => none, H1⟩ () [.any, .dat (.raw (.ref a)), .any, .any, .any, .any, .any, .any, .any, .any, .any] (fun _ => none) ((L2.start N_law [.ref p]).set 1 (some (.ref a))) H1 := by
    refine ⟨i0, .refl, rfl, fun j e q => ?_, fun j k e e' b n q1 q2 q3 q4 q5 q6 => ?_⟩
    · match j, q with
      | 0, q => cases q; exact ⟨_, rfl, trivial⟩
      | 1, q => cases q; exact ⟨_, rfl, _, rfl, .raw _⟩
      | 2, q => cases q; exact ⟨_, rfl, trivial⟩
      | 3, q => cases q; exact ⟨_, rfl, trivial⟩
      | 4, q => cases q; exact ⟨_, rfl, trivial⟩
      | 5, q => cases q; exact ⟨_, rfl, trivial⟩
      | 6, q => cases q; exact ⟨_, rfl, trivial⟩
      | 7, q => cases q; exact ⟨_, rfl, trivial⟩
      | 8, q => cases q; exact ⟨_, rfl, trivial⟩
      | 9, q => cases q; exact ⟨_, rfl, trivial⟩
      | 10, q => cases q; exact ⟨_, rfl, trivial⟩
    · match j, q1 with
      | 0, q => cases q; cases q3
      | 1, q => cases q; cases q3
      | 2, q => cases q; cases q3
      | 3, q => cases q; cases q3
      | 4, q => cases q; cases q3
      | 5, q => cases q; cases q3
      | 6, q => cases q; cases q3
      | 7, q => cases q; cases q3
      | 8, q => cases q; cases q3
      | 9, q => cases q; cases q3
      | 10, q => cases q; cases q3
  refine (?main : ∀ (B : Bs (Rdraw a s ns)) (g : (Rdraw a s ns).G), wQ K (Rdraw a s ns) B _ g [.any, .dat (.raw (.ref a)), .any, .any, .any, .any, .any, .any, .any, .any, .any] (fun _ _ => False) (fun t _ => t = .bl true) (fun _ _ => False) (fun _ _ => False)) ⟨(), fun _ => none, H1⟩ () _ _ _ ok _ ⟨fun g' es' F' σ' H' _ ok q => q.elim, fun v t g' F' H' _ i tr r q => ?rt, fun _ _ _ _ _ _ _ q => q.elim, fun _ _ _ _ _ _ _ q => q.elim⟩
  case rt =>
    subst q
    cases r
    exact hQ _
  clear i0 ok hQ
  try dsimp only [cxOf, Cx.wish, Cx.blk]
  have sz : ∀ k, k ≤ 7 → k < sizeLine := fun k h => Nat.lt_of_le_of_lt h (by decide)
  intro B g
  generalize Rdraw a s ns = R at B g ⊢
  refine wq_seqI (fun t => ∃ widths : List Nat, Sz widths ∧ widths.length = 2 ∧ t = .lst (natT widths)) ?_ ?_
  · repeat' (wtm_at "z")
    exact two_widths (by assumption) (by assumption)
  rintro _ ⟨widths, wz, wl, rfl⟩
  refine wq_seq (wq_setL (wa_nil ⟨Nat.zero_le _, ?_⟩))
  refine wq_seq (wq_setL (wa_nil ⟨Nat.zero_le _, ?_⟩))
  refine wq_seq (wq_setL (wa_nil ⟨Nat.zero_le _, ?_⟩))
  refine wq_seq (wq_for (tgt_name 6 [6] (List.mem_singleton.mpr rfl)) (wi_rng1 ?_))
  repeat' (wtm_at "z")
  refine ⟨by omega, fun n g2 es2 => g2 = g ∧ ∃ (pls : List (List Op)) (zs : List Nat) (e6 e7 e8 e9 e10 : Ent), PlansOk widths pls zs ∧ pls.length = n ∧ es2 = [.any, .dat (.raw (.ref a)), .dat (.lst (natT widths)), .lst (pls.map planT), .lst (natT zs), .lst (blT (fallsAll pls)), e6, e7, e8, e9, e10], ⟨rfl, [], [], .any, .any, .any, .any, .any, .nil, rfl, rfl⟩, ?_, ?_⟩
  · rintro n x g2 es2 hx ⟨rfl, pls, zs, e6, e7, e8, e9, e10, ok, hn, rfl⟩
    have hn3 : n < 3 := by
      have := (List.getElem?_eq_some_iff.mp hx).1
      rw [rangeT_len] at this
      omega
    have fl : (fallsAll pls).length = n := fallsAll_len.trans hn
    have fa := fun ops => fallsAll_app (pls := pls) (ops := ops)
    have zl : zs.length = n := ok.1.symm.trans hn
    refine ⟨_, rfl, ?_⟩
    generalize fallsAll pls = due at fl fa ⊢
    refine wq_seq (wq_setT (we_call ?_))
    repeat' (wtm_at "z")
    refine ⟨widths, zs, 7, rfl, ⟨wz, ok.2.1, by rintro rfl; simp at wl, by omega, by omega, by decide, by decide⟩, fun ops sizes z po hl hz => ⟨_, _, rfl, ?_⟩⟩
    repeat' (wtm_at "z")
    refine ⟨by rw [List.length_map, hn]; exact sz _ (by omega), ?_⟩
    repeat' (wtm_at "z")
    refine ⟨by rw [natT_len]; exact sz _ (by omega), ?_⟩
    repeat' (wtm_at "z")
    refine wq_for (tgt_name 10 [10] (List.mem_singleton.mpr rfl)) (wi_list (we_var rfl ⟨_, rfl, ?_⟩))
    refine ⟨fun m g2' es2 => g2' = g2 ∧ ∃ e10 : Ent, es2 = [.any, .dat (.raw (.ref a)), .dat (.lst (natT widths)), .lst (pls.map planT ++ [planT ops]), .lst (natT zs ++ [.int (z : Nat)]), .lst (blT due), .dat x, .dat (planT ops), .dat (.int (z : Nat)), .lst (blT (doneOf due (ops.take m))), e10], ⟨rfl, _, rfl⟩, ?_, ?_⟩
    · rintro m y g3 es3 hx ⟨rfl, e10, rfl⟩
      obtain ⟨op, hop, rfl⟩ := map_get hx
      have hm : m < ops.length := (List.getElem?_eq_some_iff.mp hop).1
      have ds : doneOf due (ops.take (m + 1)) = doneOf due (ops.take m) ++ [op.falls (doneOf due (ops.take m)) due] := doneOf_snoc hop
      have dl : (doneOf due (ops.take m)).length = m := by
        rw [doneOf_len, List.length_take]
        omega
      dsimp only
      rw [ds]
      generalize doneOf due (ops.take m) = done at dl
      have hs : m < sizes.length := by
        have := po.1
        omega
      have wf := po.2.2 m op sizes[m] hop (List.getElem?_eq_getElem hs)
      refine ⟨_, rfl, ?_⟩
      repeat' (wtm_at "z")
      refine ⟨op, _, _, _, _, done, due, rfl, wf, by rw [List.length_take]; omega, by omega, ?_⟩
      repeat' (wtm_at "z")
      refine ⟨by rw [List.length_map, dl]; exact sz _ (by omega), ?_⟩
      repeat' (wtm_at "z")
      refine ⟨rfl, .dat op.t, ?_⟩
      rw [blT_snoc] <;> rfl
    · rintro g3 es3 ⟨rfl, e10, rfl⟩
      rw [List.length_map, List.take_length]
      repeat' (wtm_at "z")
      refine ⟨by rw [List.length_map, fl]; exact sz _ (by omega), ?_⟩
      repeat' (wtm_at "z")
      refine ⟨hl.2, fun as bs al bl ha hb => ?_⟩
      repeat' (wtm_at "z")
      refine ⟨ops, true, rfl, hl.2, fun as' ha' => ?_⟩
      cases asc_unique ha.1 ha'.1 fun k => (ha.2 k).trans (ha'.2 k).symm
      repeat' (wtm_at "z")
      refine ⟨ops, false, rfl, hl.2, fun bs' hb' => ?_⟩
      cases asc_unique hb.1 hb'.1 fun k => (hb.2 k).trans (hb'.2 k).symm
      repeat' (wtm_at "z")
      refine ⟨plain_two (plain_ints al) (plain_ints bl), ?_⟩
      dsimp only
      repeat' (wtm_at "z")
      refine ⟨rfl, pls ++ [ops], zs ++ [z], .dat x, .dat (planT ops), .dat (.int (z : Nat)), .lst (blT (doneOf due ops)), e10, ok.snoc po hl.2 hz, by simp [hn], ?_⟩
      rw [List.map_append, natT_snoc, fa, blT_snoc] <;> rfl
  · rintro g2 es2 ⟨rfl, pls, zs, e6, e7, e8, e9, e10, ok, hn, rfl⟩
    rw [rangeT_len] at hn
    repeat' (wtm_at "z")
    refine ⟨pls, widths, zs, rfl, ok, by omega, ?_⟩
    repeat' (wtm_at "z")
    exact ⟨plain_bls (by rw [fallsAll_len]; omega), rfl⟩
end
end L96
namespace L96
open PySem PySem.Spec PyProof.Rows L2 Zc
/-! the head -/
def d_uses : He.DefD := ⟨("uses", none), "uses", "uses", defArgs s_uses, defBody s_uses, defScope s_uses, [], []⟩
def d_isfalling : He.DefD := ⟨("is_falling", none), "is_falling", "is_falling", defArgs s_isfalling, defBody s_isfalling, defScope s_isfalling, [], []⟩
def d_falling : He.DefD := ⟨("falling", none), "falling", "falling", defArgs s_falling, defBody s_falling, defScope s_falling, [], []⟩
def d_draw : He.DefD := ⟨("_law_draw", none), "_law_draw", "_law_draw", defArgs s_draw, defBody s_draw, defScope s_draw, [], []⟩
def d_next : He.DefD := ⟨("_law_next", none), "_law_next", "_law_next", defArgs s_next, defBody s_next, defScope s_next, [], []⟩
def d_same : He.DefD := ⟨("_law_same", none), "_law_same", "_law_same", defArgs s_same, defBody s_same, defScope s_same, [], []⟩
def d_cell : He.DefD := ⟨("_law_cell", none), "_law_cell", "_law_cell", defArgs s_cell, defBody s_cell, defScope s_cell, [], []⟩
def d_expr : He.DefD := ⟨("_law_expression", none), "_law_expression", "_law_expression", defArgs s_expr, defBody s_expr, defScope s_expr, [], []⟩
def d_form : He.DefD := ⟨("_law_form", none), "_law_form", "_law_form", defArgs s_form, defBody s_form, defScope s_form, [], []⟩
def d_oper : He.DefD := ⟨("_law_operation", none), "_law_operation", "_law_operation", defArgs s_oper, defBody s_oper, defScope s_oper, [], []⟩
def d_room : He.DefD := ⟨("_law_room", none), "_law_room", "_law_room", defArgs s_room, defBody s_room, defScope s_room, [], []⟩
def d_plan : He.DefD := ⟨("_law_plan", none), "_law_plan", "_law_plan", defArgs s_plan, defBody s_plan, defScope s_plan, [], []⟩
def d_named : He.DefD := ⟨("_law_named", none), "_law_named", "_law_named", defArgs s_named, defBody s_named, defScope s_named, [], []⟩
def d_lawfalls : He.DefD := ⟨("_law_falls", none), "_law_falls", "_law_falls", defArgs s_lawfalls, defBody s_lawfalls, defScope s_lawfalls, [], []⟩
def d_law : He.DefD := ⟨("law", none), "law", "law", defArgs s_law, defBody s_law, defScope s_law, [], []⟩
def fn : List He.DefD := [d_uses, d_isfalling, d_falling, d_draw, d_next, d_same, d_cell, d_expr, d_form, d_oper, d_room, d_plan, d_named, d_lawfalls, d_law]
def fa : List He.Fa := [.glo "uses", .glo "is_falling", .glo "falling", .glo "_law_draw", .glo "_law_next", .glo "_law_same", .glo "_law_cell", .glo "_law_expression", .glo "_law_form", .glo "_law_operation", .glo "_law_room", .glo "_law_plan", .glo "_law_named", .glo "_law_falls", .glo "law", .free "len", .free "abs", .free "min", .free "max", .free "int", .free "list", .free "tuple", .free "str", .free "bool", .free "set", .free "sorted", .free "all", .free "any", .free "sum", .free "range", .free "isinstance", .free "enumerate", .free "zip", .free "reversed", .free "repr"]
abbrev RW : PySem.W.OpenRow := PySem.W.OpenLaw.row PySem.Challenge.rw_lineworks_k96_uses_and_falling_of_any_pl
abbrev hk : PySem.W.Hook := He.hookD 4 fa fn
def ob (s : PySem.W.SharedT) : He.AlD := He.obsDG 4 fa fn (HandSHeadRun.getT s)
theorem ob_eq (s : PySem.W.SharedT) : ob s = hk.obs s.abs := He.obsDG_eq (HandSHeadRun.getT_eq s)
def loose : List PySem.Str := ["uses", "is_falling", "falling", "_law_draw", "_law_next", "_law_same", "_law_cell", "_law_expression", "_law_form", "_law_operation", "_law_room", "_law_plan", "_law_named", "_law_falls"]
theorem run (w : World) : HandSHeadRun.RunEq RW (PySem.W.view RW.prog [16]) hk ob 600 loose w := by
  intro os
  kernel_rfl
theorem facts {P : Program} {w : World} {K : PySem.W.Frag} {h : Heap} {mg : Str → Option Value} {f : Addr} (X : K.In h) (G : h.Ns mainGlobals mg) (hfa : mg ("law" : Str) = some (.ref f)) (c : He.SaysD fa fn K) :
    ∃ fd : FuncData, (∀ (s : Shared) (v : Value), BindsTo s fd ⟨[v], []⟩ [("script", v)]) ∧ ∀ base : Heap, K.In base → base.Ns mainGlobals mg → FnOk P w K mg base CX0 8 f fd ["script"] (spLaw K) := by
  obtain ⟨fd0, F0⟩ := c.def_ 0 (d := d_uses) rfl
  have dUses : Dfn K mg "uses" s_uses := ⟨_, fd0, F0, He.glo_ok X G (c.fact 0 (f := .glo "uses") rfl)⟩
  obtain ⟨fd1, F1⟩ := c.def_ 1 (d := d_isfalling) rfl
  have dIsfalling : Dfn K mg "is_falling" s_isfalling := ⟨_, fd1, F1, He.glo_ok X G (c.fact 1 (f := .glo "is_falling") rfl)⟩
  obtain ⟨fd2, F2⟩ := c.def_ 2 (d := d_falling) rfl
  have dFalling : Dfn K mg "falling" s_falling := ⟨_, fd2, F2, He.glo_ok X G (c.fact 2 (f := .glo "falling") rfl)⟩
  obtain ⟨fd3, F3⟩ := c.def_ 3 (d := d_draw) rfl
  have dDraw : Dfn K mg "_law_draw" s_draw := ⟨_, fd3, F3, He.glo_ok X G (c.fact 3 (f := .glo "_law_draw") rfl)⟩
  obtain ⟨fd4, F4⟩ := c.def_ 4 (d := d_next) rfl
  have dNext : Dfn K mg "_law_next" s_next := ⟨_, fd4, F4, He.glo_ok X G (c.fact 4 (f := .glo "_law_next") rfl)⟩
  obtain ⟨fd5, F5⟩ := c.def_ 5 (d := d_same) rfl
  have dSame : Dfn K mg "_law_same" s_same := ⟨_, fd5, F5, He.glo_ok X G (c.fact 5 (f := .glo "_law_same") rfl)⟩
  obtain ⟨fd6, F6⟩ := c.def_ 6 (d := d_cell) rfl
  have dCell : Dfn K mg "_law_cell" s_cell := ⟨_, fd6, F6, He.glo_ok X G (c.fact 6 (f := .glo "_law_cell") rfl)⟩
  obtain ⟨fd7, F7⟩ := c.def_ 7 (d := d_expr) rfl
  have dExpr : Dfn K mg "_law_expression" s_expr := ⟨_, fd7, F7, He.glo_ok X G (c.fact 7 (f := .glo "_law_expression") rfl)⟩
  obtain ⟨fd8, F8⟩ := c.def_ 8 (d := d_form) rfl
  have dForm : Dfn K mg "_law_form" s_form := ⟨_, fd8, F8, He.glo_ok X G (c.fact 8 (f := .glo "_law_form") rfl)⟩
  obtain ⟨fd9, F9⟩ := c.def_ 9 (d := d_oper) rfl
  have dOper : Dfn K mg "_law_operation" s_oper := ⟨_, fd9, F9, He.glo_ok X G (c.fact 9 (f := .glo "_law_operation") rfl)⟩
  obtain ⟨fd10, F10⟩ := c.def_ 10 (d := d_room) rfl
  have dRoom : Dfn K mg "_law_room" s_room := ⟨_, fd10, F10, He.glo_ok X G (c.fact 10 (f := .glo "_law_room") rfl)⟩
  obtain ⟨fd11, F11⟩ := c.def_ 11 (d := d_plan) rfl
  have dPlan : Dfn K mg "_law_plan" s_plan := ⟨_, fd11, F11, He.glo_ok X G (c.fact 11 (f := .glo "_law_plan") rfl)⟩
  obtain ⟨fd12, F12⟩ := c.def_ 12 (d := d_named) rfl
  have dNamed : Dfn K mg "_law_named" s_named := ⟨_, fd12, F12, He.glo_ok X G (c.fact 12 (f := .glo "_law_named") rfl)⟩
  obtain ⟨fd13, F13⟩ := c.def_ 13 (d := d_lawfalls) rfl
  have dLawfalls : Dfn K mg "_law_falls" s_lawfalls := ⟨_, fd13, F13, He.glo_ok X G (c.fact 13 (f := .glo "_law_falls") rfl)⟩
  obtain ⟨fd14, F14⟩ := c.def_ 14 (d := d_law) rfl
  have dLaw : Dfn K mg "law" s_law := ⟨_, fd14, F14, He.glo_ok X G (c.fact 14 (f := .glo "law") rfl)⟩
  have T : Bls mg := ⟨He.free_ok X G (c.fact 15 (f := .free "len") rfl), He.free_ok X G (c.fact 16 (f := .free "abs") rfl), He.free_ok X G (c.fact 17 (f := .free "min") rfl), He.free_ok X G (c.fact 18 (f := .free "max") rfl), He.free_ok X G (c.fact 19 (f := .free "int") rfl), He.free_ok X G (c.fact 20 (f := .free "list") rfl), He.free_ok X G (c.fact 21 (f := .free "tuple") rfl), He.free_ok X G (c.fact 22 (f := .free "str") rfl), He.free_ok X G (c.fact 23 (f := .free "bool") rfl), He.free_ok X G (c.fact 24 (f := .free "set") rfl), He.free_ok X G (c.fact 25 (f := .free "sorted") rfl), He.free_ok X G (c.fact 26 (f := .free "all") rfl), He.free_ok X G (c.fact 27 (f := .free "any") rfl), He.free_ok X G (c.fact 28 (f := .free "sum") rfl), He.free_ok X G (c.fact 29 (f := .free "range") rfl), He.free_ok X G (c.fact 30 (f := .free "isinstance") rfl), He.free_ok X G (c.fact 31 (f := .free "enumerate") rfl), He.free_ok X G (c.fact 32 (f := .free "zip") rfl), He.free_ok X G (c.fact 33 (f := .free "reversed") rfl), He.free_ok X G (c.fact 34 (f := .free "repr") rfl)⟩
  have e := hfa.symm.trans (He.glo_ok X G (c.fact 14 (f := .glo "law") rfl))
  cases e
  have b := FunD.bindsA (ps := ["script"]) F14 fun _ _ _ _ _ _ us hl => match us, hl with | [_], _ => rfl
  refine ⟨fd14, fun s v => b s [v] rfl, fun base _ _ => ?_⟩
  have C1 := fun a s ns => c_next (P := P) (w := w) (base := base) (R := Rdraw a s ns) (Rdraw.has a s ns) dNext T
  have C2 := fun a s ns => c_cell dCell T (C1 a s ns)
  have C3 := fun a s ns => c_expr dExpr T (C1 a s ns) (C2 a s ns)
  have C4 := fun a s ns => c_form dForm T (C1 a s ns) (C3 a s ns)
  have C5 := fun a s ns => c_oper dOper T (C1 a s ns) (C3 a s ns) (C4 a s ns)
  have C6 := fun a s ns => c_room (P := P) (w := w) (base := base) (R := Rdraw a s ns) dRoom T
  have C7 := fun a s ns => c_plan dPlan T (C1 a s ns) (C5 a s ns) (C6 a s ns)
  have C8 := fun a s ns => c_isfalling (P := P) (w := w) (base := base) (R := Rdraw a s ns) dIsfalling T
  exact ok_law F14 T (c_draw dDraw T) C1 C7 (fun a s ns => c_uses dUses T) (fun a s ns => c_falling dFalling T (C8 a s ns)) (fun a s ns => c_named dNamed T) (fun a s ns => c_lawfalls dLawfalls T) (fun a s ns => c_same dSame T 2)
end L96
open PySem PySem.W PySem.Calls PyProof.Rows
theorem PySem.Challenge.cw_lineworks_k96_uses_and_falling_of_any_pl_holds : PySem.Challenge.rw_lineworks_k96_uses_and_falling_of_any_pl.Holds := by
  w_on; o_law
  refine HandSHeadRun.head_any (r := OpenLaw.row PySem.Challenge.rw_lineworks_k96_uses_and_falling_of_any_pl) (q := view (OpenLaw.row PySem.Challenge.rw_lineworks_k96_uses_and_falling_of_any_pl).prog [16]) (H := L96.hk) (ob := L96.ob) (M := 600) (loose := L96.loose) (d := HandSHeadRun.topDef (OpenLaw.row PySem.Challenge.rw_lineworks_k96_uses_and_falling_of_any_pl).prog 16) (kwd := []) L96.ob_eq
    (by kernel_rfl) (fun s => by kernel_rfl) L96.run (by kernel_rfl) (by kernel_rfl) (by kernel_rfl) (by rfl) (by first | assumption | decide +kernel) (by decide +kernel) ⟨rfl, rfl, rfl, rfl, rfl, by decide +kernel⟩ ?hw ?hc
  case hw => w_witness2
  case hc =>
    refine L2.walk_ofE (l := PySem.Challenge.rw_lineworks_k96_uses_and_falling_of_any_pl) (n := 63) (k := 8) (x := "script") (CX := L2.CX0) rfl (by decide) (by kernel_rfl) ⟨rfl, by decide, by decide⟩ ?F (fun _ _ _ _ z => z)
    intro w mg fa h Y G hmg0
    obtain ⟨K, KX, c⟩ := Y
    have hmg : mg ("law" : PySem.Str) = some (.ref fa) := by
      have e : (HandSHeadRun.topDef (OpenLaw.row PySem.Challenge.rw_lineworks_k96_uses_and_falling_of_any_pl).prog 16).name = ("law" : PySem.Str) := by kernel_rfl
      rw [← e]
      exact hmg0
    obtain ⟨fd, hb, hF⟩ := L96.facts (P := (PySem.Challenge.rw_lineworks_k96_uses_and_falling_of_any_pl).prog) (w := w) KX G hmg c
    exact ⟨K, fd, L96.spLaw K, KX, hb, fun H a ns hl _ hS => ⟨a, ns, rfl, hS, fun _ => rfl⟩, hF⟩
