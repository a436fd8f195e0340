import PyProof.Rows.All
import Wide.All
import OpenK.AllK
import HandS.ForMost
import HandS.DictComp
import HandS.Deep
import HandS.SortInts
import HandS.IsInst
import HandS.Evl
import HandS.Strs
import HandS.SetFor
import HandS.Flow
import HandS.Defaults
import HandS.TupAny
import HandS.CallLocal
import HandS.More
import PyProof.ReprRoads
import HandS.Ends
import HandS.SetBool
import HandS.Gcd
import HandS.Wide
import HandS.MakeKwOnly
import Wide.FinOn
import KE.KStateDown
import Lean
import HandS.Base
import HandS.Call
import HandS.Words
import HandS.WordsExc
import HandS.Head0
import HandS.Head1
import HandS.Head2
import HandS.HeadEnd
import HandS.HeadHook1
import HandS.HeadHook2
import HandS.Head3
import HandS.HeadHook3
import HandS.HeadHook4
import PySem.Challenge.RW_lineworks_k74_shares_add_up
set_option Elab.async false
set_option linter.all false
set_option maxRecDepth 100000
set_option maxHeartbeats 4000000
/-! Z1: data over a frozen part of the heap; what a reading evaluates to, told by data alone. -/
namespace Zc
open PySem L2
abbrev Ex := Evl.Ex

/-- a datum: what a frozen value is worth; raw v: just this value -/
inductive T where
  | non | bl (b : Bool) | int (i : Int) | str (x : Str) | lst (xs : List T) | tup (xs : List T) | dct (kvs : List (Key × T)) | raw (v : V)

mutual
inductive Rep (K : PySem.W.Frag) (F : Hp) : V → T → Prop
  | non : Rep K F .non .non
  | bl (b : Bool) : Rep K F (.bl b) (.bl b)
  | int (i : Int) : Rep K F (.int i) (.int i)
  | str (x : Str) : Rep K F (.str x) (.str x)
  | lst {a : Addr} {xs : List V} {ts : List T} : SqL K F a xs → Reps K F xs ts → Rep K F (.ref a) (.lst ts)
  | tup {a : Addr} {xs : List V} {ts : List T} : SqT K F a xs → Reps K F xs ts → Rep K F (.ref a) (.tup ts)
  | dct {a : Addr} {kvs : List (Key × V)} {ts : List (Key × T)} : F a = some (.dK kvs) → RepK K F kvs ts → Rep K F (.ref a) (.dct ts)
  | raw (v : V) : Rep K F v (.raw v)
inductive Reps (K : PySem.W.Frag) (F : Hp) : List V → List T → Prop
  | nil : Reps K F [] []
  | cons {v : V} {vs : List V} {t : T} {ts : List T} : Rep K F v t → Reps K F vs ts → Reps K F (v :: vs) (t :: ts)
inductive RepK (K : PySem.W.Frag) (F : Hp) : List (Key × V) → List (Key × T) → Prop
  | nil : RepK K F [] []
  | cons {k : Key} {v : V} {vs : List (Key × V)} {t : T} {ts : List (Key × T)} : Rep K F v t → RepK K F vs ts → RepK K F ((k, v) :: vs) ((k, t) :: ts)
end
section
variable {K : PySem.W.Frag} {F F' : Hp}
mutual
theorem Rep.mono (e : Ex F F') : ∀ (t : T) (v : V), Rep K F v t → Rep K F' v t
  | .non, _, .non => .non
  | .bl _, _, .bl _ => .bl _
  | .int _, _, .int _ => .int _
  | .str _, _, .str _ => .str _
  | .raw _, _, .raw _ => .raw _
  | .lst ts, _, .lst (xs := xs) h hs => .lst (Evl.ex_l e h) (Reps.mono e ts xs hs)
  | .tup ts, _, .tup (xs := xs) h hs => .tup (Evl.ex_t e h) (Reps.mono e ts xs hs)
  | .dct ts, _, .dct (kvs := xs) h hs => .dct (e _ _ h) (RepK.mono e ts xs hs)
theorem Reps.mono (e : Ex F F') : ∀ (ts : List T) (vs : List V), Reps K F vs ts → Reps K F' vs ts
  | [], _, .nil => .nil
  | t :: ts, _, .cons (v := v) (vs := vs) h hs => .cons (Rep.mono e t v h) (Reps.mono e ts vs hs)
theorem RepK.mono (e : Ex F F') : ∀ (ts : List (Key × T)) (vs : List (Key × V)), RepK K F vs ts → RepK K F' vs ts
  | [], _, .nil => .nil
  | (k, t) :: ts, _, .cons (v := v) (vs := vs) h hs => .cons (Rep.mono e t v h) (RepK.mono e ts vs hs)
end
theorem Rep.up {v : V} {t : T} (h : Rep K F v t) (e : Ex F F') : Rep K F' v t := Rep.mono e t v h
theorem Reps.up {v : List V} {t : List T} (h : Reps K F v t) (e : Ex F F') : Reps K F' v t := Reps.mono e t v h
theorem RepK.up {v : List (Key × V)} {t : List (Key × T)} (h : RepK K F v t) (e : Ex F F') : RepK K F' v t := RepK.mono e t v h
theorem Reps.length : ∀ {vs : List V} {ts : List T}, Reps K F vs ts → vs.length = ts.length
  | _, _, .nil => rfl
  | _, _, .cons _ h => congrArg Nat.succ h.length
theorem RepK.length : ∀ {vs : List (Key × V)} {ts : List (Key × T)}, RepK K F vs ts → vs.length = ts.length
  | _, _, .nil => rfl
  | _, _, .cons _ h => congrArg Nat.succ h.length
theorem Reps.append : ∀ {vs ws : List V} {ts us : List T}, Reps K F vs ts → Reps K F ws us → Reps K F (vs ++ ws) (ts ++ us)
  | _, _, _, _, .nil, h => h
  | _, _, _, _, .cons a b, h => .cons a (Reps.append b h)
theorem Reps.get : ∀ {vs : List V} {ts : List T} {i : Nat} {t : T}, Reps K F vs ts → ts[i]? = some t → ∃ v, vs[i]? = some v ∧ Rep K F v t
  | _, _, _, _, .nil, e => by simp at e
  | _, _, 0, _, .cons a _, e => by
    simp at e
    subst e
    exact ⟨_, rfl, a⟩
  | _, _, i + 1, _, .cons _ b, e => by
    obtain ⟨v, h1, h2⟩ := Reps.get (i := i) b (by simpa using e)
    exact ⟨v, by simpa using h1, h2⟩
theorem Reps.get' : ∀ {vs : List V} {ts : List T} {i : Nat} {v : V}, Reps K F vs ts → vs[i]? = some v → ∃ t, ts[i]? = some t ∧ Rep K F v t
  | _, _, _, _, .nil, e => by simp at e
  | _, _, 0, _, .cons a _, e => by
    simp at e
    subst e
    exact ⟨_, rfl, a⟩
  | _, _, i + 1, _, .cons _ b, e => by
    obtain ⟨v, h1, h2⟩ := Reps.get' (i := i) b (by simpa using e)
    exact ⟨v, by simpa using h1, h2⟩
theorem Reps.take : ∀ {vs : List V} {ts : List T} (n : Nat), Reps K F vs ts → Reps K F (vs.take n) (ts.take n)
  | _, _, 0, _ => .nil
  | _, _, _ + 1, .nil => .nil
  | _, _, n + 1, .cons a b => .cons a (Reps.take n b)
theorem Reps.drop : ∀ {vs : List V} {ts : List T} (n : Nat), Reps K F vs ts → Reps K F (vs.drop n) (ts.drop n)
  | _, _, 0, h => h
  | _, _, _ + 1, .nil => .nil
  | _, _, n + 1, .cons _ b => Reps.drop n b
theorem Reps.dropLast : ∀ {vs : List V} {ts : List T}, Reps K F vs ts → Reps K F vs.dropLast ts.dropLast
  | _, _, .nil => .nil
  | _, _, .cons _ .nil => .nil
  | _, _, .cons a (.cons b c) => .cons a (Reps.dropLast (.cons b c))
theorem Reps.ints : ∀ {vs : List V} {ns : List Int}, Reps K F vs (ns.map T.int) → vs = ns.map V.int
  | [], [], _ => rfl
  | _, _ :: ns, .cons h hs => by
    cases h
    rw [Reps.ints hs]
    rfl
theorem Reps.of_ints (F : Hp) : ∀ ns : List Int, Reps K F (ns.map V.int) (ns.map T.int)
  | [] => .nil
  | n :: ns => .cons (.int n) (Reps.of_ints F ns)
theorem Reps.bls : ∀ {vs : List V} {ns : List Bool}, Reps K F vs (ns.map T.bl) → vs = ns.map V.bl
  | [], [], _ => rfl
  | _, _ :: ns, .cons h hs => by
    cases h
    rw [Reps.bls hs]
    rfl
theorem Reps.of_bls (F : Hp) : ∀ ns : List Bool, Reps K F (ns.map V.bl) (ns.map T.bl)
  | [] => .nil
  | n :: ns => .cons (.bl n) (Reps.of_bls F ns)
theorem Reps.strs' : ∀ {vs : List V} {ns : List Str}, Reps K F vs (ns.map T.str) → vs = ns.map V.str
  | [], [], _ => rfl
  | _, _ :: ns, .cons h hs => by
    cases h
    rw [Reps.strs' hs]
    rfl
theorem Reps.of_strs (F : Hp) : ∀ ns : List Str, Reps K F (ns.map V.str) (ns.map T.str)
  | [] => .nil
  | n :: ns => .cons (.str n) (Reps.of_strs F ns)
end
/-- it leans on no object -/
def T.sc : T → Bool
  | .non => true | .bl _ => true | .int _ => true | .str _ => true | .raw _ => true | _ => false
theorem Rep.sc {K : PySem.W.Frag} {F F' : Hp} {v : V} {t : T} (h : Rep K F v t) (s : t.sc = true) : Rep K F' v t := by
  cases h with
  | non => exact .non
  | bl b => exact .bl b
  | int i => exact .int i
  | str x => exact .str x
  | raw v => exact .raw v
  | lst _ _ => cases s
  | tup _ _ => cases s
  | dct _ _ => cases s

/-- what is shared and changes: G its state, Res what the heap bears of it, P its own addresses, M those that change -/
structure Rs where
  G : Type
  Res : G → Hp → Prop
  P : G → Addr → Prop
  M : G → Addr → Prop
  mp : ∀ {g a}, M g a → P g a
  pn : ∀ {g H a}, Res g H → P g a → H a ≠ none
  put : ∀ {g H b o}, Res g H → ¬ P g b → Res g (upd H b o)

section
variable (K : PySem.W.Frag) (R : Rs)
structure Rs.I (g : R.G) (F H : Hp) : Prop where
  ex : Ex F H
  fm : ∀ a, R.M g a → F a = none
  res : R.Res g H
/-- all that does not change -/
noncomputable def Rs.froz (g : R.G) (H : Hp) : Hp := fun a => by
  classical exact if R.M g a then none else H a
end
section
variable {K : PySem.W.Frag} {R : Rs} {g g' : R.G} {F F' H H' : Hp}
theorem froz_no {a : Addr} (h : R.M g a) : R.froz g H a = none := by
  unfold Rs.froz
  rw [if_pos h]
theorem froz_at {a : Addr} (h : ¬ R.M g a) : R.froz g H a = H a := by
  unfold Rs.froz
  rw [if_neg h]
theorem froz_ex : Ex (R.froz g H) H := fun a o e => by
  by_cases h : R.M g a
  · rw [froz_no h] at e
    cases e
  · rw [froz_at h] at e
    exact e
theorem Rs.I.low (i : R.I g F H) (e : Ex F' F) : R.I g F' H := by
  refine ⟨e.trans i.ex, fun a m => ?_, i.res⟩
  cases q : F' a with
  | none => rfl
  | some o =>
    have := e _ _ q
    rw [i.fm a m] at this
    cases this
theorem Rs.I.all (i : R.I g F H) : R.I g (R.froz g H) H := ⟨froz_ex, fun _ m => froz_no m, i.res⟩
theorem Rs.I.exf (i : R.I g F H) : Ex F (R.froz g H) := fun a o e => by
  have h : ¬ R.M g a := fun m => by
    rw [i.fm a m] at e
    cases e
  rw [froz_at h]
  exact i.ex _ _ e

/-- from one state to another -/
structure Tr (R : Rs) (g : R.G) (F H : Hp) (g' : R.G) (F' H' : Hp) : Prop where
  f : Ex F F'
  nw : ∀ a, F' a ≠ none → F a ≠ none ∨ H a = none ∨ R.P g a
  kp : ∀ a o, H a = some o → ¬ R.M g a → H' a = some o
  al : ∀ a, H a ≠ none → H' a ≠ none
  pp : ∀ a, R.P g' a → R.P g a ∨ H a = none
  mm : ∀ a, R.M g' a → R.M g a ∨ H a = none
theorem Tr.refl : Tr R g F H g F H := ⟨Evl.Ex.refl _, fun _ h => .inl h, fun _ _ h _ => h, fun _ h => h, fun _ h => .inl h, fun _ h => .inl h⟩
theorem none_of {H H' : Hp} (al : ∀ a, H a ≠ none → H' a ≠ none) {a : Addr} (h : H' a = none) : H a = none := by
  cases q : H a with
  | none => rfl
  | some o => exact absurd h (al a (by rw [q]; intro z; cases z))
theorem Tr.trans {g2 : R.G} {F2 H2 : Hp} (a : Tr R g F H g' F' H') (b : Tr R g' F' H' g2 F2 H2) : Tr R g F H g2 F2 H2 := by
  refine ⟨a.f.trans b.f, fun x h => ?_, fun x o h m => ?_, fun x h => b.al x (a.al x h), fun x h => ?_, fun x h => ?_⟩
  · rcases b.nw x h with h | h | h
    · exact a.nw x h
    · exact .inr (.inl (none_of a.al h))
    · rcases a.pp x h with h | h
      · exact .inr (.inr h)
      · exact .inr (.inl h)
  · refine b.kp x o (a.kp x o h m) fun z => ?_
    rcases a.mm x z with z | z
    · exact m z
    · rw [z] at h
      cases h
  · rcases b.pp x h with h | h
    · exact a.pp x h
    · exact .inr (none_of a.al h)
  · rcases b.mm x h with h | h
    · exact a.mm x h
    · exact .inr (none_of a.al h)
theorem ne_none {H : Hp} {a : Addr} {o : HO} (h : H a = some o) : H a ≠ none := by
  rw [h]
  intro z
  cases z
theorem some_of {H : Hp} {a : Addr} (h : H a ≠ none) : ∃ o, H a = some o := by
  cases q : H a with
  | none => exact absurd q h
  | some o => exact ⟨o, rfl⟩
/-- a new object is laid and frozen -/
theorem Tr.new {p : Addr} {o : HO} (i : R.I g F H) (h : H p = none) : Tr R g F H g (upd F p o) (upd H p o) ∧ R.I g (upd F p o) (upd H p o) := by
  have fp : F p = none := Evl.fresh_back i.ex h
  have np : ¬ R.P g p := fun z => R.pn i.res z h
  refine ⟨⟨Evl.Ex.new fp, fun a q => ?_, fun a u q _ => by rw [upd_ne (ne_of_none q h)]; exact q, fun a q => ?_, fun _ z => .inl z, fun _ z => .inl z⟩, ⟨fun a u q => ?_, fun a m => ?_, R.put i.res np⟩⟩
  · by_cases e : a = p
    · subst e
      exact .inr (.inl h)
    · rw [upd_ne e] at q
      exact .inl q
  · obtain ⟨u, q⟩ := some_of q
    rw [upd_ne (ne_of_none q h)]
    exact ne_none q
  · by_cases e : a = p
    · subst e
      rw [upd_same] at q
      rw [upd_same]
      exact q
    · rw [upd_ne e] at q
      rw [upd_ne e]
      exact i.ex _ _ q
  · have e : a ≠ p := fun e => np (R.mp (e ▸ m))
    rw [upd_ne e]
    exact i.fm a m
/-- a new object is laid, not frozen -/
theorem Tr.lay {p : Addr} {o : HO} (i : R.I g F H) (h : H p = none) : Tr R g F H g F (upd H p o) ∧ R.I g F (upd H p o) := by
  obtain ⟨t, j⟩ := Tr.new (o := o) i h
  refine ⟨⟨Evl.Ex.refl _, fun _ h => .inl h, t.kp, t.al, t.pp, t.mm⟩, j.low ?_⟩
  exact Evl.Ex.new (Evl.fresh_back i.ex h)
end
end Zc
/-! Z2: what the slots hold, and what readings come to, by data. -/
namespace Zc
open PySem L2

inductive Ent where
  | any | dat (t : T) | bor (t : T) | lst (ts : List T) | dk (kvs : List (Key × T))
def Ent.own : Ent → Bool
  | .lst _ => true | .dk _ => true | _ => false
def Ent.thaw : Ent → Ent
  | .any => .any | .dat t => .dat t | .bor t => .dat t | .lst ts => .dat (.lst ts) | .dk kvs => .dat (.dct kvs)
def Ent.val : Ent → Option T
  | .any => none | .dat t => some t | .bor t => some t | .lst ts => some (.lst ts) | .dk kvs => some (.dct kvs)
structure Bs (R : Rs) where
  g : R.G
  F : Hp
  H : Hp
section
variable (K : PySem.W.Frag) (R : Rs) (B : Bs R)
def EntOk (g : R.G) (F H : Hp) (s : Option V) : Ent → Prop
  | .any => True
  | .dat t => ∃ v, s = some v ∧ Rep K F v t
  | .bor t => ∃ v, s = some v ∧ Rep K (R.froz B.g B.H) v t
  | .lst ts => ∃ a vs, s = some (.ref a) ∧ H a = some (.lst vs) ∧ F a = none ∧ ¬ R.P g a ∧ B.H a = none ∧ Reps K F vs ts
  | .dk ts => ∃ a vs, s = some (.ref a) ∧ H a = some (.dK vs) ∧ F a = none ∧ ¬ R.P g a ∧ B.H a = none ∧ RepK K F vs ts
structure Ok (g : R.G) (es : List Ent) (F : Hp) (σ : L2.St) (H : Hp) : Prop where
  i : R.I g F H
  t : Tr R B.g B.F B.H g F H
  len : σ.length = es.length
  ent : ∀ (i : Nat) e, es[i]? = some e → ∃ s, σ[i]? = some s ∧ EntOk K R B g F H s e
  dis : ∀ (i j : Nat) e e' (a : Addr), i ≠ j → es[i]? = some e → es[j]? = some e' → e.own = true → e'.own = true → σ[i]? = some (some (.ref a)) → σ[j]? = some (some (.ref a)) → False
end
def OwnA (es : List Ent) (σ : L2.St) (a : Addr) : Prop := ∃ (i : Nat) (e : Ent), es[i]? = some e ∧ e.own = true ∧ σ[i]? = some (some (.ref a))
structure Lc (R : Rs) (σ : L2.St) (g : R.G) (es : List Ent) (F H : Hp) (g' : R.G) (es' : List Ent) (F' H' : Hp) : Prop where
  f : Ex F F'
  nw : ∀ a, F' a ≠ none → F a ≠ none ∨ H a = none ∨ R.P g a ∨ OwnA es σ a
  kp : ∀ a o, H a = some o → ¬ R.M g a → ¬ OwnA es σ a → H' a = some o
  al : ∀ a, H a ≠ none → H' a ≠ none
  pp : ∀ a, R.P g' a → R.P g a ∨ H a = none
  mm : ∀ a, R.M g' a → R.M g a ∨ H a = none
  ow : ∀ a, OwnA es' σ a → OwnA es σ a
section
variable {K : PySem.W.Frag} {R : Rs} {B : Bs R} {g g' g2 : R.G} {es es' es2 : List Ent} {F F' F2 H H' H2 : Hp} {σ σ' : L2.St}
theorem Lc.refl : Lc R σ g es F H g es F H := ⟨Evl.Ex.refl _, fun _ h => .inl h, fun _ _ h _ _ => h, fun _ h => h, fun _ h => .inl h, fun _ h => .inl h, fun _ h => h⟩
theorem Lc.trans (a : Lc R σ g es F H g' es' F' H') (b : Lc R σ g' es' F' H' g2 es2 F2 H2) : Lc R σ g es F H g2 es2 F2 H2 := by
  refine ⟨a.f.trans b.f, fun x h => ?_, fun x o h m n => ?_, fun x h => b.al x (a.al x h), fun x h => ?_, fun x h => ?_, fun x h => a.ow x (b.ow x h)⟩
  · rcases b.nw x h with h | h | h | h
    · exact a.nw x h
    · exact .inr (.inl (none_of a.al h))
    · rcases a.pp x h with h | h
      · exact .inr (.inr (.inl h))
      · exact .inr (.inl h)
    · exact .inr (.inr (.inr (a.ow x h)))
  · refine b.kp x o (a.kp x o h m n) (fun z => ?_) fun z => n (a.ow x z)
    rcases a.mm x z with z | z
    · exact m z
    · rw [z] at h
      cases h
  · rcases b.pp x h with h | h
    · exact a.pp x h
    · exact .inr (none_of a.al h)
  · rcases b.mm x h with h | h
    · exact a.mm x h
    · exact .inr (none_of a.al h)
theorem Lc.of (a : Tr R g F H g' F' H') : Lc R σ g es F H g' es F' H' := by
  refine ⟨a.f, fun x h => ?_, fun x o h m _ => a.kp x o h m, a.al, a.pp, a.mm, fun _ h => h⟩
  rcases a.nw x h with h | h | h
  · exact .inl h
  · exact .inr (.inl h)
  · exact .inr (.inr (.inl h))
theorem EntOk.step {s : Option V} {e : Ent} (x : EntOk K R B g F H s e) (a : Tr R g F H g' F' H') : EntOk K R B g' F' H' s e := by
  have own : ∀ {b : Addr} {o : HO}, H b = some o → F b = none → ¬ R.P g b → H' b = some o ∧ F' b = none ∧ ¬ R.P g' b := fun {b o} h1 h2 h3 => by
    refine ⟨a.kp b o h1 fun z => h3 (R.mp z), ?_, fun z => ?_⟩
    · cases q : F' b with
      | none => rfl
      | some u =>
        rcases a.nw b (ne_none q) with z | z | z
        · exact absurd h2 z
        · rw [z] at h1
          cases h1
        · exact absurd z h3
    · rcases a.pp b z with z | z
      · exact h3 z
      · rw [z] at h1
        cases h1
  cases e with
  | any => trivial
  | dat t =>
    obtain ⟨v, h1, h2⟩ := x
    exact ⟨v, h1, h2.up a.f⟩
  | bor t => exact x
  | lst ts =>
    obtain ⟨b, vs, h1, h2, h3, h4, h5, h6⟩ := x
    obtain ⟨q1, q2, q3⟩ := own h2 h3 h4
    exact ⟨b, vs, h1, q1, q2, q3, h5, h6.up a.f⟩
  | dk ts =>
    obtain ⟨b, vs, h1, h2, h3, h4, h5, h6⟩ := x
    obtain ⟨q1, q2, q3⟩ := own h2 h3 h4
    exact ⟨b, vs, h1, q1, q2, q3, h5, h6.up a.f⟩
theorem Ok.step (x : Ok K R B g es F σ H) (a : Tr R g F H g' F' H') (i : R.I g' F' H') : Ok K R B g' es F' σ H' := by
  refine ⟨i, x.t.trans a, x.len, fun j e h => ?_, x.dis⟩
  obtain ⟨s, h1, h2⟩ := x.ent j e h
  exact ⟨s, h1, h2.step a⟩
theorem Ok.ownH (x : Ok K R B g es F σ H) {a : Addr} (h : OwnA es σ a) : H a ≠ none ∧ F a = none ∧ ¬ R.P g a ∧ B.H a = none := by
  obtain ⟨i, e, h1, h2, h3⟩ := h
  obtain ⟨s, h4, h5⟩ := x.ent i e h1
  rw [h3] at h4
  cases h4
  cases e with
  | lst ts =>
    obtain ⟨b, vs, q1, q2, q3, q4, q5, _⟩ := h5
    cases q1
    exact ⟨ne_none q2, q3, q4, q5⟩
  | dk ts =>
    obtain ⟨b, vs, q1, q2, q3, q4, q5, _⟩ := h5
    cases q1
    exact ⟨ne_none q2, q3, q4, q5⟩
  | any => cases h2
  | dat t => cases h2
  | bor t => cases h2
theorem set_get {α : Type} {l : List α} {i j : Nat} {a b : α} (h : (l.set i a)[j]? = some b) : (i = j ∧ b = a ∧ i < l.length) ∨ (i ≠ j ∧ l[j]? = some b) := by
  by_cases e : i = j
  · subst e
    by_cases hl : i < l.length
    · rw [List.getElem?_set_self hl] at h
      exact .inl ⟨rfl, (Option.some.inj h).symm, hl⟩
    · rw [List.getElem?_eq_none (by simpa using hl)] at h
      cases h
  · rw [List.getElem?_set_ne e] at h
    exact .inr ⟨e, h⟩
theorem Ok.set (x : Ok K R B g es F σ H) {i : Nat} {v : V} {t : T} (r : Rep K F v t) : Ok K R B g (es.set i (.dat t)) F (σ.set i (some v)) H := by
  refine ⟨x.i, x.t, by simp [x.len], fun j e h => ?_, fun j k e e' a n h1 h2 h3 h4 h5 h6 => ?_⟩
  · rcases set_get h with ⟨rfl, rfl, hl⟩ | ⟨ne, h⟩
    · exact ⟨some v, List.getElem?_set_self (by rw [x.len]; exact hl), v, rfl, r⟩
    · obtain ⟨s, q1, q2⟩ := x.ent j e h
      exact ⟨s, by rw [List.getElem?_set_ne ne]; exact q1, q2⟩
  · rcases set_get h1 with ⟨rfl, rfl, _⟩ | ⟨n1, k1⟩
    · cases h3
    · rcases set_get h2 with ⟨rfl, rfl, _⟩ | ⟨n2, k2⟩
      · cases h4
      · rw [List.getElem?_set_ne n1] at h5
        rw [List.getElem?_set_ne n2] at h6
        exact x.dis j k e e' a n k1 k2 h3 h4 h5 h6
/-- the slot's entry alone is changed -/
theorem Ok.ent_set (x : Ok K R B g es F σ H) {i : Nat} {s : Option V} {e : Ent} (hs : σ[i]? = some s) (r : EntOk K R B g F H s e) (he : e.own = true → ∀ a, s = some (.ref a) → ¬ OwnA (es.set i .any) σ a) : Ok K R B g (es.set i e) F σ H := by
  refine ⟨x.i, x.t, by simp [x.len], fun j e' h => ?_, fun j k e1 e2 a n h1 h2 h3 h4 h5 h6 => ?_⟩
  · rcases set_get h with ⟨rfl, rfl, hl⟩ | ⟨ne, h⟩
    · exact ⟨s, hs, r⟩
    · exact x.ent j e' h
  · rcases set_get h1 with ⟨rfl, rfl, _⟩ | ⟨n1, k1⟩
    · rcases set_get h2 with ⟨rfl, rfl, _⟩ | ⟨n2, k2⟩
      · exact n rfl
      · rw [hs] at h5
        cases h5
        exact he h3 a rfl ⟨k, e2, by rw [List.getElem?_set_ne n2]; exact k2, h4, h6⟩
    · rcases set_get h2 with ⟨rfl, rfl, _⟩ | ⟨n2, k2⟩
      · rw [hs] at h6
        cases h6
        exact he h4 a rfl ⟨j, e1, by rw [List.getElem?_set_ne n1]; exact k1, h3, h5⟩
      · exact x.dis j k e1 e2 a n k1 k2 h3 h4 h5 h6
theorem Ok.setOwn (x : Ok K R B g es F σ H) {i : Nat} {a : Addr} {e : Ent} (r : EntOk K R B g F H (some (.ref a)) e) (n : ¬ OwnA es σ a) : Ok K R B g (es.set i e) F (σ.set i (some (.ref a))) H := by
  refine ⟨x.i, x.t, by simp [x.len], fun j e' h => ?_, fun j k e1 e2 b ne h1 h2 h3 h4 h5 h6 => ?_⟩
  · rcases set_get h with ⟨rfl, rfl, hl⟩ | ⟨ne, h⟩
    · exact ⟨_, List.getElem?_set_self (by rw [x.len]; exact hl), r⟩
    · obtain ⟨s, q1, q2⟩ := x.ent j e' h
      exact ⟨s, by rw [List.getElem?_set_ne ne]; exact q1, q2⟩
  · rcases set_get h1 with ⟨rfl, rfl, hl⟩ | ⟨n1, k1⟩
    · rcases set_get h2 with ⟨rfl, rfl, _⟩ | ⟨n2, k2⟩
      · exact ne rfl
      · rw [List.getElem?_set_self (by rw [x.len]; exact hl)] at h5
        rw [List.getElem?_set_ne n2] at h6
        cases h5
        exact n ⟨k, e2, k2, h4, h6⟩
    · rcases set_get h2 with ⟨rfl, rfl, hl⟩ | ⟨n2, k2⟩
      · rw [List.getElem?_set_self (by rw [x.len]; exact hl)] at h6
        rw [List.getElem?_set_ne n1] at h5
        cases h6
        exact n ⟨j, e1, k1, h3, h5⟩
      · rw [List.getElem?_set_ne n1] at h5
        rw [List.getElem?_set_ne n2] at h6
        exact x.dis j k e1 e2 b ne k1 k2 h3 h4 h5 h6
/-- an own object (of slot i) is changed -/
theorem Ok.chg (x : Ok K R B g es F σ H) {i : Nat} {a : Addr} {o : HO} {e : Ent} (ha : OwnA es σ a) (hi : σ[i]? = some (some (.ref a))) (hown : ∃ e0, es[i]? = some e0 ∧ e0.own = true) (r : EntOk K R B g F (upd H a o) (some (.ref a)) e) :
    Ok K R B g (es.set i e) F σ (upd H a o) := by
  obtain ⟨hH, hF, hP, hB⟩ := x.ownH ha
  obtain ⟨e0, hi0, ho0⟩ := hown
  have tr : Tr R B.g B.F B.H g F (upd H a o) := by
    refine ⟨x.t.f, x.t.nw, fun b u q m => ?_, fun b q => ?_, x.t.pp, x.t.mm⟩
    · rw [upd_ne (ne_of_none q hB)]
      exact x.t.kp b u q m
    · obtain ⟨u, q'⟩ := some_of q
      rw [upd_ne (ne_of_none q' hB)]
      exact x.t.al b q
  have ii : R.I g F (upd H a o) := ⟨fun b u q => by rw [upd_ne (ne_of_none q hF)]; exact x.i.ex b u q, x.i.fm, R.put x.i.res hP⟩
  refine ⟨ii, tr, by simp [x.len], fun j e' h => ?_, fun j k e1 e2 b ne h1 h2 h3 h4 h5 h6 => ?_⟩
  · rcases set_get h with ⟨rfl, rfl, hl⟩ | ⟨ne, h⟩
    · exact ⟨_, hi, r⟩
    · obtain ⟨s, q1, q2⟩ := x.ent j e' h
      refine ⟨s, q1, ?_⟩
      cases e' with
      | any => trivial
      | dat t => exact q2
      | bor t => exact q2
      | lst ts =>
        obtain ⟨b, vs, z1, z2, z3⟩ := q2
        refine ⟨b, vs, z1, ?_, z3⟩
        have : b ≠ a := fun z => by
          subst z
          rw [z1] at q1
          exact x.dis i j e0 (.lst ts) b ne hi0 h ho0 rfl hi q1
        rw [upd_ne this]
        exact z2
      | dk ts =>
        obtain ⟨b, vs, z1, z2, z3⟩ := q2
        refine ⟨b, vs, z1, ?_, z3⟩
        have : b ≠ a := fun z => by
          subst z
          rw [z1] at q1
          exact x.dis i j e0 (.dk ts) b ne hi0 h ho0 rfl hi q1
        rw [upd_ne this]
        exact z2
  · rcases set_get h1 with ⟨rfl, rfl, _⟩ | ⟨n1, k1⟩
    · rcases set_get h2 with ⟨rfl, rfl, _⟩ | ⟨n2, k2⟩
      · exact ne rfl
      · exact x.dis i k e0 e2 b n2 hi0 k2 ho0 h4 h5 h6
    · rcases set_get h2 with ⟨rfl, rfl, _⟩ | ⟨n2, k2⟩
      · exact x.dis j i e1 e0 b (Ne.symm n1) k1 hi0 h3 ho0 h5 h6
      · exact x.dis j k e1 e2 b ne k1 k2 h3 h4 h5 h6
/-- an object that no slot owns, of ours -/
theorem Ok.put (x : Ok K R B g es F σ H) {a : Addr} {o : HO} (hF : F a = none) (hP : ¬ R.P g a) (hB : B.H a = none) (hn : ¬ OwnA es σ a) : Ok K R B g es F σ (upd H a o) := by
  have tr : Tr R B.g B.F B.H g F (upd H a o) := by
    refine ⟨x.t.f, x.t.nw, fun b u q m => ?_, fun b q => ?_, x.t.pp, x.t.mm⟩
    · rw [upd_ne (ne_of_none q hB)]
      exact x.t.kp b u q m
    · obtain ⟨u, q'⟩ := some_of q
      rw [upd_ne (ne_of_none q' hB)]
      exact x.t.al b q
  have ii : R.I g F (upd H a o) := ⟨fun b u q => by rw [upd_ne (ne_of_none q hF)]; exact x.i.ex b u q, x.i.fm, R.put x.i.res hP⟩
  refine ⟨ii, tr, x.len, fun j e' h => ?_, x.dis⟩
  obtain ⟨s, q1, q2⟩ := x.ent j e' h
  refine ⟨s, q1, ?_⟩
  cases e' with
  | any => trivial
  | dat t => exact q2
  | bor t => exact q2
  | lst ts =>
    obtain ⟨b, vs, z1, z2, z3⟩ := q2
    refine ⟨b, vs, z1, ?_, z3⟩
    rw [upd_ne (fun z => hn ⟨j, .lst ts, h, rfl, by rw [q1, z1, z]⟩)]
    exact z2
  | dk ts =>
    obtain ⟨b, vs, z1, z2, z3⟩ := q2
    refine ⟨b, vs, z1, ?_, z3⟩
    rw [upd_ne (fun z => hn ⟨j, .dk ts, h, rfl, by rw [q1, z1, z]⟩)]
    exact z2
/-- an object of ours is frozen -/
theorem Ok.frz (x : Ok K R B g es F σ H) {a : Addr} {o : HO} (hH : H a = some o) (hF : F a = none) (hP : ¬ R.P g a) (hB : B.H a = none) (hn : ¬ OwnA es σ a) : Ok K R B g es (upd F a o) σ H := by
  have ex : Ex F (upd F a o) := Evl.Ex.new hF
  have tr : Tr R B.g B.F B.H g (upd F a o) H := by
    refine ⟨x.t.f.trans ex, fun b q => ?_, x.t.kp, x.t.al, x.t.pp, x.t.mm⟩
    by_cases e : b = a
    · subst e
      exact .inr (.inl hB)
    · rw [upd_ne e] at q
      exact x.t.nw b q
  have ii : R.I g (upd F a o) H := by
    refine ⟨fun b u q => ?_, fun b m => ?_, x.i.res⟩
    · by_cases e : b = a
      · subst e
        rw [upd_same] at q
        rw [← q]
        exact hH
      · rw [upd_ne e] at q
        exact x.i.ex b u q
    · have e : b ≠ a := fun e => hP (R.mp (e ▸ m))
      rw [upd_ne e]
      exact x.i.fm b m
  refine ⟨ii, tr, x.len, fun j e' h => ?_, x.dis⟩
  obtain ⟨s, q1, q2⟩ := x.ent j e' h
  refine ⟨s, q1, ?_⟩
  cases e' with
  | any => trivial
  | dat t =>
    obtain ⟨v, h1, h2⟩ := q2
    exact ⟨v, h1, h2.up ex⟩
  | bor t => exact q2
  | lst ts =>
    obtain ⟨b, vs, z1, z2, z3, z4, z5, z6⟩ := q2
    refine ⟨b, vs, z1, z2, ?_, z4, z5, z6.up ex⟩
    rw [upd_ne (fun z => hn ⟨j, .lst ts, h, rfl, by rw [q1, z1, z]⟩)]
    exact z3
  | dk ts =>
    obtain ⟨b, vs, z1, z2, z3, z4, z5, z6⟩ := q2
    refine ⟨b, vs, z1, z2, ?_, z4, z5, z6.up ex⟩
    rw [upd_ne (fun z => hn ⟨j, .dk ts, h, rfl, by rw [q1, z1, z]⟩)]
    exact z3
/-- an entry forgotten -/
theorem Ok.forget (x : Ok K R B g es F σ H) (i : Nat) : Ok K R B g (es.set i .any) F σ H := by
  by_cases h : i < σ.length
  · exact x.ent_set (s := σ[i]) (by simp [h]) trivial fun z => by cases z
  · rw [List.set_eq_of_length_le (by rw [← x.len]; omega)]
    exact x
theorem OwnA.set {i : Nat} {e : Ent} {a : Addr} (h : OwnA (es.set i e) σ a) (he : e.own = false) : OwnA es σ a := by
  obtain ⟨j, e', h1, h2, h3⟩ := h
  rcases set_get h1 with ⟨rfl, rfl, _⟩ | ⟨n, h1⟩
  · rw [he] at h2
    cases h2
  · exact ⟨j, e', h1, h2, h3⟩
theorem OwnA.setO {i : Nat} {e : Ent} {a : Addr} (h : OwnA (es.set i e) σ a) (he : ∃ e0, es[i]? = some e0 ∧ e0.own = true) : OwnA es σ a := by
  obtain ⟨j, e', h1, h2, h3⟩ := h
  rcases set_get h1 with ⟨rfl, rfl, _⟩ | ⟨n, h1⟩
  · obtain ⟨e0, q1, q2⟩ := he
    exact ⟨i, e0, q1, q2, h3⟩
  · exact ⟨j, e', h1, h2, h3⟩
end
end Zc
/-! Z3: expressions, tests, arguments, calls, statements. -/
namespace Zc
open PySem L2

section
variable (K : PySem.W.Frag) (R : Rs) (B : Bs R)
def wE (te : TE) (g : R.G) (es : List Ent) (post : T → R.G → List Ent → Prop) : Prop :=
  ∀ F σ H, Ok K R B g es F σ H → ∀ Q : VK, (∀ v t g' es' F' H', Lc R σ g es F H g' es' F' H' → Ok K R B g' es' F' σ H' → Rep K F' v t → post t g' es' → Q v H') → te σ H Q
def wT (tt : TT) (g : R.G) (es : List Ent) (post : Bool → R.G → List Ent → Prop) : Prop :=
  ∀ F σ H, Ok K R B g es F σ H → ∀ Q : Bool → Hp → Prop, (∀ b g' es' F' H', Lc R σ g es F H g' es' F' H' → Ok K R B g' es' F' σ H' → post b g' es' → Q b H') → tt σ H Q
def wA (ta : TA) (g : R.G) (es : List Ent) (post : List T → R.G → List Ent → Prop) : Prop :=
  ∀ F σ H, Ok K R B g es F σ H → ∀ Q : List V → Hp → Prop, (∀ v t g' es' F' H', Lc R σ g es F H g' es' F' H' → Ok K R B g' es' F' σ H' → Reps K F' v t → post t g' es' → Q v H') → ta σ H Q
/-- a slice's bound -/
def wO (to : TO) (g : R.G) (es : List Ent) (post : Option Int → R.G → List Ent → Prop) : Prop :=
  ∀ F σ H, Ok K R B g es F σ H → ∀ Q : Option Int → Hp → Prop, (∀ o g' es' F' H', Lc R σ g es F H g' es' F' H' → Ok K R B g' es' F' σ H' → post o g' es' → Q o H') → to σ H Q
/-- values: an operation of two, of one, a call on many -/
def wR (r : R2) (x y : T) (post : T → Prop) : Prop := ∀ g F H vx vy, R.I g F H → Rep K F vx x → Rep K F vy y → ∀ Q : VK,
  (∀ v t F' H', Tr R g F H g F' H' → R.I g F' H' → Rep K F' v t → post t → Q v H') → r vx vy H Q
def wU (r : V → Hp → VK → Prop) (x : T) (post : T → Prop) : Prop := ∀ g F H vx, R.I g F H → Rep K F vx x → ∀ Q : VK,
  (∀ v t F' H', Tr R g F H g F' H' → R.I g F' H' → Rep K F' v t → post t → Q v H') → r vx H Q
def wC (r : List V → Hp → VK → Prop) (x : List T) (post : T → Prop) : Prop := ∀ g F H vx, R.I g F H → Reps K F vx x → ∀ Q : VK,
  (∀ v t F' H', Tr R g F H g F' H' → R.I g F' H' → Rep K F' v t → post t → Q v H') → r vx H Q
def wM (r : V → List V → Hp → VK → Prop) (x : T) (y : List T) (post : T → Prop) : Prop := ∀ g F H vx vy, R.I g F H → Rep K F vx x → Reps K F vy y → ∀ Q : VK,
  (∀ v t F' H', Tr R g F H g F' H' → R.I g F' H' → Rep K F' v t → post t → Q v H') → r vx vy H Q
end
structure Po (R : Rs) where
  nx : R.G → List Ent → Prop
  rt : T → R.G → Prop
  bk : R.G → List Ent → Prop := fun _ _ => False
  ct : R.G → List Ent → Prop := fun _ _ => False
section
variable (K : PySem.W.Frag) (R : Rs) (B : Bs R)
structure Ens (P : Po R) (F : Hp) (D : Ends) : Prop where
  nx : ∀ g' es' F' σ' H', Ex F F' → Ok K R B g' es' F' σ' H' → P.nx g' es' → D.nx σ' H'
  rt : ∀ v t g' F' H', Ex F F' → R.I g' F' H' → Tr R B.g B.F B.H g' F' H' → Rep K F' v t → P.rt t g' → D.rt v H'
  bk : ∀ g' es' F' σ' H', Ex F F' → Ok K R B g' es' F' σ' H' → P.bk g' es' → D.bk σ' H'
  ct : ∀ g' es' F' σ' H', Ex F F' → Ok K R B g' es' F' σ' H' → P.ct g' es' → D.ct σ' H'
def wS (ts : TS) (g : R.G) (es : List Ent) (P : Po R) : Prop := ∀ F σ H, Ok K R B g es F σ H → ∀ D : Ends, Ens K R B P F D → ts D σ H
end
section
variable {K : PySem.W.Frag} {R : Rs} {B : Bs R} {g g' : R.G} {es es' : List Ent} {F F' H H' : Hp} {σ : L2.St} {ta tb te : TE} {tt tu : TT} {post : T → R.G → List Ent → Prop} {pb : Bool → R.G → List Ent → Prop} {pl : List T → R.G → List Ent → Prop} {P : Po R}
theorem Ens.up {D : Ends} (x : Ens K R B P F D) (e : Ex F F') : Ens K R B P F' D :=
  ⟨fun g' es' F2 σ' H' q => x.nx g' es' F2 σ' H' (e.trans q), fun v t g' F2 H' q => x.rt v t g' F2 H' (e.trans q), fun g' es' F2 σ' H' q => x.bk g' es' F2 σ' H' (e.trans q), fun g' es' F2 σ' H' q => x.ct g' es' F2 σ' H' (e.trans q)⟩

/-! ### values -/
theorem we_mono {post' : T → R.G → List Ent → Prop} (h : wE K R B te g es post) (m : ∀ t g es, post t g es → post' t g es) : wE K R B te g es post' :=
  fun F σ H ok Q q => h F σ H ok Q fun v t g' es' F' H' l o r p => q v t g' es' F' H' l o r (m _ _ _ p)
theorem we_c {v : V} {t : T} (r : ∀ F, Rep K F v t) (h : post t g es) : wE K R B (tC v) g es post := fun F σ H ok Q q => q _ _ _ _ _ _ .refl ok (r F) h
theorem we_int {i : Int} (h : post (.int i) g es) : wE K R B (tC (.int i)) g es post := we_c (fun _ => .int i) h
theorem we_str {i : Str} (h : post (.str i) g es) : wE K R B (tC (.str i)) g es post := we_c (fun _ => .str i) h
theorem we_bl {i : Bool} (h : post (.bl i) g es) : wE K R B (tC (.bl i)) g es post := we_c (fun _ => .bl i) h
theorem we_non (h : post .non g es) : wE K R B (tC .non) g es post := we_c (fun _ => .non) h
theorem we_raw {v : V} (h : post (.raw v) g es) : wE K R B (tC v) g es post := we_c (fun _ => .raw v) h
theorem we_var {i : Nat} {t : T} (e : es[i]? = some (.dat t)) (h : post t g es) : wE K R B (tVar i) g es post := fun F σ H ok Q q => by
  obtain ⟨s, h1, v, rfl, r⟩ := ok.ent i _ e
  exact ⟨v, h1, q _ _ _ _ _ _ .refl ok r h⟩
theorem we_own {i : Nat} {ts : List T} (e : es[i]? = some (.lst ts)) (h : post (.lst ts) g (es.set i (.dat (.lst ts)))) : wE K R B (tVar i) g es post := fun F σ H ok Q q => by
  obtain ⟨s, h1, a, vs, rfl, hH, hF, hP, hB, r⟩ := ok.ent i _ e
  refine ⟨_, h1, ?_⟩
  have ow : OwnA es σ a := ⟨i, _, e, rfl, h1⟩
  have ok1 : Ok K R B g (es.set i .any) F σ H := ok.forget i
  have nn : ¬ OwnA (es.set i .any) σ a := fun z => by
    obtain ⟨j, e', q1, q2, q3⟩ := z
    rcases set_get q1 with ⟨rfl, rfl, _⟩ | ⟨n, q1⟩
    · cases q2
    · exact ok.dis i j _ _ a n e q1 rfl q2 h1 q3
  have ok2 := ok1.frz hH hF hP hB nn
  have rr : Rep K (upd F a (.lst vs)) (.ref a) (.lst ts) := .lst (Evl.sq_of upd_same) (r.up (Evl.Ex.new hF))
  have ok3 := ok2.ent_set (i := i) (e := .dat (.lst ts)) h1 ⟨_, rfl, rr⟩ (fun z => by cases z)
  rw [List.set_set] at ok3
  refine q _ _ g _ _ H ?_ ok3 rr h
  refine ⟨Evl.Ex.new hF, fun b z => ?_, fun _ _ h _ _ => h, fun _ h => h, fun _ h => .inl h, fun _ h => .inl h, fun b z => z.set rfl⟩
  by_cases eb : b = a
  · subst eb
    exact .inr (.inr (.inr ow))
  · rw [upd_ne eb] at z
    exact .inl z
theorem we_ownD {i : Nat} {ts : List (Key × T)} (e : es[i]? = some (.dk ts)) (h : post (.dct ts) g (es.set i (.dat (.dct ts)))) : wE K R B (tVar i) g es post := fun F σ H ok Q q => by
  obtain ⟨s, h1, a, vs, rfl, hH, hF, hP, hB, r⟩ := ok.ent i _ e
  refine ⟨_, h1, ?_⟩
  have ow : OwnA es σ a := ⟨i, _, e, rfl, h1⟩
  have ok1 : Ok K R B g (es.set i .any) F σ H := ok.forget i
  have nn : ¬ OwnA (es.set i .any) σ a := fun z => by
    obtain ⟨j, e', q1, q2, q3⟩ := z
    rcases set_get q1 with ⟨rfl, rfl, _⟩ | ⟨n, q1⟩
    · cases q2
    · exact ok.dis i j _ _ a n e q1 rfl q2 h1 q3
  have ok2 := ok1.frz hH hF hP hB nn
  have rr : Rep K (upd F a (.dK vs)) (.ref a) (.dct ts) := .dct upd_same (r.up (Evl.Ex.new hF))
  have ok3 := ok2.ent_set (i := i) (e := .dat (.dct ts)) h1 ⟨_, rfl, rr⟩ (fun z => by cases z)
  rw [List.set_set] at ok3
  refine q _ _ g _ _ H ?_ ok3 rr h
  refine ⟨Evl.Ex.new hF, fun b z => ?_, fun _ _ h _ _ => h, fun _ h => h, fun _ h => .inl h, fun _ h => .inl h, fun b z => z.set rfl⟩
  by_cases eb : b = a
  · subst eb
    exact .inr (.inr (.inr ow))
  · rw [upd_ne eb] at z
    exact .inl z
/-- read, not kept: what is a number, a truth value, a text in the end -/
theorem thaw_get {l : List Ent} {i : Nat} {e : Ent} (h : (l.map Ent.thaw)[i]? = some e) : ∃ e0, l[i]? = some e0 ∧ e = e0.thaw := by
  rw [List.getElem?_map] at h
  cases q : l[i]? with
  | none =>
    rw [q] at h
    cases h
  | some e0 =>
    rw [q] at h
    exact ⟨e0, rfl, (Option.some.inj h).symm⟩
theorem Ok.bfroz (ok : Ok K R B g es F σ H) : Ex (R.froz B.g B.H) (R.froz g H) := fun a o q => by
  have nm : ¬ R.M B.g a := fun m => by
    rw [froz_no m] at q
    cases q
  rw [froz_at nm] at q
  have q2 := ok.t.kp a o q nm
  rw [froz_at]
  · exact q2
  · intro m
    rcases ok.t.mm a m with z | z
    · exact nm z
    · rw [z] at q
      cases q
theorem Ok.entF (ok : Ok K R B g es F σ H) {i : Nat} {e : Ent} {t : T} (h : es[i]? = some e) (hv : e.val = some t) : ∃ v, σ[i]? = some (some v) ∧ Rep K (R.froz g H) v t := by
  obtain ⟨s, h1, h2⟩ := ok.ent i e h
  have own : ∀ {b : Addr} {o : HO}, H b = some o → ¬ R.P g b → R.froz g H b = some o := fun {b o} q n => by
    rw [froz_at fun m => n (R.mp m)]
    exact q
  cases e with
  | any => cases hv
  | dat u =>
    cases hv
    obtain ⟨v, rfl, r⟩ := h2
    exact ⟨v, h1, r.up ok.i.exf⟩
  | bor u =>
    cases hv
    obtain ⟨v, rfl, r⟩ := h2
    exact ⟨v, h1, r.up ok.bfroz⟩
  | lst ts =>
    cases hv
    obtain ⟨a, vs, rfl, hH, hF, hP, hB, r⟩ := h2
    exact ⟨_, h1, .lst (Evl.sq_of (own hH hP)) (r.up ok.i.exf)⟩
  | dk ts =>
    cases hv
    obtain ⟨a, vs, rfl, hH, hF, hP, hB, r⟩ := h2
    exact ⟨_, h1, .dct (own hH hP) (r.up ok.i.exf)⟩
theorem Ok.thawed (ok : Ok K R B g es F σ H) : Ok K R ⟨g, R.froz g H, H⟩ g (es.map Ent.thaw) (R.froz g H) σ H := by
  refine ⟨ok.i.all, .refl, by simp [ok.len], fun i e h => ?_, fun i j e e' a n h1 h2 h3 h4 h5 h6 => ?_⟩
  · obtain ⟨e0, q1, rfl⟩ := thaw_get h
    cases e0 with
    | any =>
      obtain ⟨s, z, _⟩ := ok.ent i _ q1
      exact ⟨s, z, trivial⟩
    | dat t =>
      obtain ⟨v, z1, z2⟩ := ok.entF q1 rfl
      exact ⟨_, z1, v, rfl, z2⟩
    | bor t =>
      obtain ⟨v, z1, z2⟩ := ok.entF q1 rfl
      exact ⟨_, z1, v, rfl, z2⟩
    | lst ts =>
      obtain ⟨v, z1, z2⟩ := ok.entF q1 rfl
      exact ⟨_, z1, v, rfl, z2⟩
    | dk ts =>
      obtain ⟨v, z1, z2⟩ := ok.entF q1 rfl
      exact ⟨_, z1, v, rfl, z2⟩
  · obtain ⟨e0, q1, rfl⟩ := thaw_get h1
    cases e0 <;> cases h3
/-- behind a reading of the thawed slots -/
theorem Ok.refrozen {g' : R.G} {F2 H2 : Hp} {B1 : Bs R} (ok : Ok K R B g es F σ H) (e1 : B1 = ⟨g, R.froz g H, H⟩) (ok2 : Ok K R B1 g' (es.map Ent.thaw) F2 σ H2) :
    Tr R g F H g' F H2 ∧ R.I g' F H2 := by
  subst e1
  have t := ok2.t
  exact ⟨⟨Evl.Ex.refl _, fun _ h => .inl h, t.kp, t.al, t.pp, t.mm⟩, ok2.i.low (ok.i.exf.trans t.f)⟩
theorem we_bor (h : ∀ B1, wE K R B1 te g (es.map Ent.thaw) fun t g' es' => t.sc = true ∧ es' = es.map Ent.thaw ∧ post t g' es) : wE K R B te g es post := fun F σ H ok Q q => by
  refine h ⟨g, R.froz g H, H⟩ _ σ H ok.thawed Q fun v t g' es' F' H' l o r p => ?_
  obtain ⟨p1, rfl, p3⟩ := p
  obtain ⟨tr, i⟩ := ok.refrozen rfl o
  exact q v t g' es F H' (.of tr) (ok.step tr i) (r.sc p1) p3
theorem wt_bor (h : ∀ B1, wT K R B1 tt g (es.map Ent.thaw) fun t g' es' => es' = es.map Ent.thaw ∧ pb t g' es) : wT K R B tt g es pb := fun F σ H ok Q q => by
  refine h ⟨g, R.froz g H, H⟩ _ σ H ok.thawed Q fun b g' es' F' H' l o p => ?_
  obtain ⟨rfl, p3⟩ := p
  obtain ⟨tr, i⟩ := ok.refrozen rfl o
  exact q b g' es F H' (.of tr) (ok.step tr i) p3

/-! ### operations -/
theorem we_op {r : R2} (h : wE K R B ta g es fun x g1 es1 => wE K R B tb g1 es1 fun y g2 es2 => wR K R r x y fun z => post z g2 es2) : wE K R B (tOp r ta tb) g es post := fun F σ H ok Q q => by
  refine h F σ H ok _ fun vx x g1 es1 F1 H1 l1 ok1 rx h1 => ?_
  refine h1 F1 σ H1 ok1 _ fun vy y g2 es2 F2 H2 l2 ok2 ry h2 => ?_
  refine h2 g2 F2 H2 vx vy ok2.i (rx.up l2.f) ry Q fun v t F3 H3 tr i r p => ?_
  exact q v t g2 es2 F3 H3 ((l1.trans l2).trans (.of tr)) (ok2.step tr i) r p
theorem we_un {r : V → Hp → VK → Prop} (h : wE K R B ta g es fun x g1 es1 => wU K R r x fun z => post z g1 es1) : wE K R B (tUn r ta) g es post := fun F σ H ok Q q => by
  refine h F σ H ok _ fun vx x g1 es1 F1 H1 l1 ok1 rx h1 => ?_
  refine h1 g1 F1 H1 vx ok1.i rx Q fun v t F3 H3 tr i r p => ?_
  exact q v t g1 es1 F3 H3 (l1.trans (.of tr)) (ok1.step tr i) r p
theorem we_cb {r : List V → Hp → VK → Prop} {t : TA} (h : wA K R B t g es fun x g1 es1 => wC K R r x fun z => post z g1 es1) : wE K R B (tCB r t) g es post := fun F σ H ok Q q => by
  refine h F σ H ok _ fun vx x g1 es1 F1 H1 l1 ok1 rx h1 => ?_
  refine h1 g1 F1 H1 vx ok1.i rx Q fun v t F3 H3 tr i r p => ?_
  exact q v t g1 es1 F3 H3 (l1.trans (.of tr)) (ok1.step tr i) r p
theorem wa_nil (h : pl [] g es) : wA K R B tNil g es pl := fun F σ H ok Q q => q _ _ _ _ _ _ .refl ok .nil h
theorem wa_cons {tr : TA} (h : wE K R B te g es fun x g1 es1 => wA K R B tr g1 es1 fun xs g2 es2 => pl (x :: xs) g2 es2) : wA K R B (tCons te tr) g es pl := fun F σ H ok Q q => by
  refine h F σ H ok _ fun vx x g1 es1 F1 H1 l1 ok1 rx h1 => ?_
  refine h1 F1 σ H1 ok1 _ fun vy y g2 es2 F2 H2 l2 ok2 ry h2 => ?_
  exact q _ _ g2 es2 F2 H2 (l1.trans l2) ok2 (.cons (rx.up l2.f) ry) h2
theorem we_tup {t : TA} (h : wA K R B t g es fun ts g' es' => ts.length ≤ sizeLine ∧ post (.tup ts) g' es') : wE K R B (tTup t) g es post := fun F σ H ok Q q => by
  refine h F σ H ok _ fun vs ts g1 es1 F1 H1 l1 ok1 rs h1 => ?_
  refine ⟨by rw [rs.length]; exact h1.1, fun p hp => ?_⟩
  obtain ⟨tr, i⟩ := Tr.new (o := .tup vs) ok1.i hp
  exact q _ (.tup ts) g1 es1 _ _ (l1.trans (.of tr)) (ok1.step tr i) (.tup (Evl.st_of upd_same) (rs.up tr.f)) h1.2
theorem we_lst {t : TA} (h : wA K R B t g es fun ts g' es' => ts.length ≤ sizeLine ∧ post (.lst ts) g' es') : wE K R B (tLst t) g es post := fun F σ H ok Q q => by
  refine h F σ H ok _ fun vs ts g1 es1 F1 H1 l1 ok1 rs h1 => ?_
  refine ⟨by rw [rs.length]; exact h1.1, fun p hp => ?_⟩
  obtain ⟨tr, i⟩ := Tr.new (o := .lst vs) ok1.i hp
  exact q _ (.lst ts) g1 es1 _ _ (l1.trans (.of tr)) (ok1.step tr i) (.lst (Evl.sq_of upd_same) (rs.up tr.f)) h1.2
theorem we_if (h : wT K R B tt g es fun b g1 es1 => if b = true then wE K R B ta g1 es1 post else wE K R B tb g1 es1 post) : wE K R B (tIf tt ta tb) g es post := fun F σ H ok Q q => by
  refine h F σ H ok _ fun b g1 es1 F1 H1 l1 ok1 h1 => ?_
  cases b with
  | true => exact h1 F1 σ H1 ok1 Q fun v t g2 es2 F2 H2 l2 => q v t g2 es2 F2 H2 (l1.trans l2)
  | false => exact h1 F1 σ H1 ok1 Q fun v t g2 es2 F2 H2 l2 => q v t g2 es2 F2 H2 (l1.trans l2)
theorem we_andV (h : wE K R B ta g es fun x g1 es1 => ∃ c, x = .bl c ∧ if c = true then wE K R B tb g1 es1 post else post (.bl false) g1 es1) : wE K R B (tAndV ta tb) g es post := fun F σ H ok Q q => by
  refine h F σ H ok _ fun vx x g1 es1 F1 H1 l1 ok1 rx h1 => ?_
  obtain ⟨c, rfl, h1⟩ := h1
  cases rx
  refine ⟨c, rfl, ?_⟩
  cases c with
  | true => exact h1 F1 σ H1 ok1 Q fun v t g2 es2 F2 H2 l2 => q v t g2 es2 F2 H2 (l1.trans l2)
  | false => exact q _ _ g1 es1 F1 H1 l1 ok1 (.bl false) h1
theorem we_orV (h : wE K R B ta g es fun x g1 es1 => ∃ c, x = .bl c ∧ if c = true then post (.bl true) g1 es1 else wE K R B tb g1 es1 post) : wE K R B (tOrV ta tb) g es post := fun F σ H ok Q q => by
  refine h F σ H ok _ fun vx x g1 es1 F1 H1 l1 ok1 rx h1 => ?_
  obtain ⟨c, rfl, h1⟩ := h1
  cases rx
  refine ⟨c, rfl, ?_⟩
  cases c with
  | true => exact q _ _ g1 es1 F1 H1 l1 ok1 (.bl true) h1
  | false => exact h1 F1 σ H1 ok1 Q fun v t g2 es2 F2 H2 l2 => q v t g2 es2 F2 H2 (l1.trans l2)
theorem we_notV (h : wE K R B ta g es fun x g1 es1 => ∃ c, x = .bl c ∧ post (.bl (!c)) g1 es1) : wE K R B (tNotV ta) g es post := fun F σ H ok Q q => by
  refine h F σ H ok _ fun vx x g1 es1 F1 H1 l1 ok1 rx h1 => ?_
  obtain ⟨c, rfl, h1⟩ := h1
  cases rx
  exact ⟨c, rfl, q _ _ g1 es1 F1 H1 l1 ok1 (.bl _) h1⟩

/-! ### tests -/
theorem wt_test (h : wE K R B te g es fun x g1 es1 => ∃ c, x = .bl c ∧ pb c g1 es1) : wT K R B (tTest te) g es pb := fun F σ H ok Q q => by
  refine h F σ H ok _ fun vx x g1 es1 F1 H1 l1 ok1 rx h1 => ?_
  obtain ⟨c, rfl, h1⟩ := h1
  cases rx
  exact ⟨c, rfl, q c g1 es1 F1 H1 l1 ok1 h1⟩
theorem wt_B (h : wE K R B te g es fun x g1 es1 => ∃ c, x = .bl c ∧ pb c g1 es1) : wT K R B (tB te) g es pb := wt_test h
theorem wt_yes (h : pb true g es) : wT K R B tYes g es pb := fun F σ H ok Q q => q _ _ _ _ _ .refl ok h
theorem wt_and (h : wT K R B tt g es fun b g1 es1 => if b = true then wT K R B tu g1 es1 pb else pb false g1 es1) : wT K R B (tAnd tt tu) g es pb := fun F σ H ok Q q => by
  refine h F σ H ok _ fun b g1 es1 F1 H1 l1 ok1 h1 => ?_
  cases b with
  | true => exact h1 F1 σ H1 ok1 Q fun b g2 es2 F2 H2 l2 => q b g2 es2 F2 H2 (l1.trans l2)
  | false => exact q _ g1 es1 F1 H1 l1 ok1 h1
theorem wt_or (h : wT K R B tt g es fun b g1 es1 => if b = true then pb true g1 es1 else wT K R B tu g1 es1 pb) : wT K R B (tOr tt tu) g es pb := fun F σ H ok Q q => by
  refine h F σ H ok _ fun b g1 es1 F1 H1 l1 ok1 h1 => ?_
  cases b with
  | true => exact q _ g1 es1 F1 H1 l1 ok1 h1
  | false => exact h1 F1 σ H1 ok1 Q fun b g2 es2 F2 H2 l2 => q b g2 es2 F2 H2 (l1.trans l2)
theorem wt_not (h : wT K R B tt g es fun b g1 es1 => pb (!b) g1 es1) : wT K R B (tNot tt) g es pb := fun F σ H ok Q q => by
  refine h F σ H ok _ fun b g1 es1 F1 H1 l1 ok1 h1 => ?_
  exact q _ g1 es1 F1 H1 l1 ok1 h1
/-- truth of a datum -/
def T.tru : T → Option Bool
  | .non => some false | .bl b => some b | .int i => some (i != 0) | .str x => if x.length ≤ sizeLine then some ((x.length : Int) != 0) else none
  | .lst xs => some (!xs.isEmpty) | .tup xs => some (!xs.isEmpty) | .dct kvs => some (!kvs.isEmpty) | .raw _ => none
theorem Reps.empty : ∀ {vs : List V} {ts : List T}, Reps K F vs ts → vs.isEmpty = ts.isEmpty
  | _, _, .nil => rfl
  | _, _, .cons _ _ => rfl
theorem RepK.empty : ∀ {vs : List (Key × V)} {ts : List (Key × T)}, RepK K F vs ts → vs.isEmpty = ts.isEmpty
  | _, _, .nil => rfl
  | _, _, .cons _ _ => rfl
theorem Rep.tru {v : V} {t : T} {b : Bool} (r : Rep K F v t) (e : Ex F H) (h : t.tru = some b) : TruV K v H b := by
  cases r with
  | non => exact (Option.some.inj h).symm
  | bl _ => exact (Option.some.inj h).symm
  | int _ => exact (Option.some.inj h).symm
  | str x =>
    have h' : (if x.length ≤ sizeLine then some ((x.length : Int) != 0) else none) = some b := h
    by_cases hl : x.length ≤ sizeLine
    · rw [if_pos hl] at h'
      exact ⟨hl, (Option.some.inj h').symm⟩
    · rw [if_neg hl] at h'
      cases h'
  | lst h1 h2 => exact .inl ⟨_, Evl.ex_l e h1, by rw [h2.empty]; exact (Option.some.inj h).symm⟩
  | tup h1 h2 => exact .inr (.inl ⟨_, Evl.ex_t e h1, by rw [h2.empty]; exact (Option.some.inj h).symm⟩)
  | dct h1 h2 => exact .inr (.inr ⟨_, e _ _ h1, by rw [h2.empty]; exact (Option.some.inj h).symm⟩)
  | raw _ => cases h
theorem wt_tru (h : wE K R B te g es fun x g1 es1 => ∃ c, x.tru = some c ∧ pb c g1 es1) : wT K R B (fun σ H Q => te σ H fun x H' => ∃ k, TruV K x H' k ∧ Q k H') g es pb := fun F σ H ok Q q => by
  refine h F σ H ok _ fun vx x g1 es1 F1 H1 l1 ok1 rx h1 => ?_
  obtain ⟨c, e, h1⟩ := h1
  exact ⟨c, rx.tru ok1.i.ex e, q c g1 es1 F1 H1 l1 ok1 h1⟩

/-! ### calls of defs -/
end
inductive ArgsOk (K : PySem.W.Frag) (R : Rs) (g : R.G) (F H : Hp) : List Bool → List V → List T → Prop
  | nil : ArgsOk K R g F H [] [] []
  | dat {v : V} {t : T} {ms : List Bool} {vs : List V} {ts : List T} : Rep K F v t → ArgsOk K R g F H ms vs ts → ArgsOk K R g F H (false :: ms) (v :: vs) (t :: ts)
  | bor {v : V} {t : T} {ms : List Bool} {vs : List V} {ts : List T} : Rep K (R.froz g H) v t → ArgsOk K R g F H ms vs ts → ArgsOk K R g F H (true :: ms) (v :: vs) (t :: ts)
def wAm (K : PySem.W.Frag) (R : Rs) (B : Bs R) (ms : List Bool) (ta : TA) (g : R.G) (es : List Ent) (post : List T → R.G → List Ent → Prop) : Prop :=
  ∀ F σ H, Ok K R B g es F σ H → ∀ Q : List V → Hp → Prop, (∀ v t g' es' F' H', Lc R σ g es F H g' es' F' H' → Ok K R B g' es' F' σ H' → ArgsOk K R g' F' H' ms v t → post t g' es' → Q v H') → ta σ H Q
abbrev DSp (R : Rs) := List T → R.G → (T → R.G → Prop) → Prop
/-- a def's promise by data: ms tells which arguments are but read -/
def spD (K : PySem.W.Frag) (R : Rs) (ms : List Bool) (pre : DSp R) : Sp := fun vs H Q _ => ∃ F ts g post, R.I g F H ∧ ArgsOk K R g F H ms vs ts ∧ pre ts g post ∧
  ∀ v t g' F' H', Tr R g F H g' F' H' → R.I g' F' H' → Rep K F' v t → post t g' → Q v H'
section
variable {K : PySem.W.Frag} {R : Rs} {B : Bs R} {g g' : R.G} {es es' : List Ent} {F F' H H' : Hp} {σ : L2.St} {ta tb te : TE} {tt tu : TT} {post : T → R.G → List Ent → Prop} {pb : Bool → R.G → List Ent → Prop} {pl : List T → R.G → List Ent → Prop} {P : Po R} {ms : List Bool}
theorem wm_nil (h : pl [] g es) : wAm K R B [] tNil g es pl := fun F σ H ok Q q => q _ _ _ _ _ _ .refl ok .nil h
theorem wm_dat {tr : TA} (h : wE K R B te g es fun x g1 es1 => wAm K R B ms tr g1 es1 fun xs g2 es2 => pl (x :: xs) g2 es2) : wAm K R B (false :: ms) (tCons te tr) g es pl := fun F σ H ok Q q => by
  refine h F σ H ok _ fun vx x g1 es1 F1 H1 l1 ok1 rx h1 => ?_
  refine h1 F1 σ H1 ok1 _ fun vy y g2 es2 F2 H2 l2 ok2 ry h2 => ?_
  exact q _ _ g2 es2 F2 H2 (l1.trans l2) ok2 (.dat (rx.up l2.f) ry) h2
/-- a datum where reading would do -/
theorem wm_dtb {tr : TA} (h : wE K R B te g es fun x g1 es1 => wAm K R B ms tr g1 es1 fun xs g2 es2 => pl (x :: xs) g2 es2) : wAm K R B (true :: ms) (tCons te tr) g es pl := fun F σ H ok Q q => by
  refine h F σ H ok _ fun vx x g1 es1 F1 H1 l1 ok1 rx h1 => ?_
  refine h1 F1 σ H1 ok1 _ fun vy y g2 es2 F2 H2 l2 ok2 ry h2 => ?_
  exact q _ _ g2 es2 F2 H2 (l1.trans l2) ok2 (.bor ((rx.up l2.f).up ok2.i.exf) ry) h2
theorem wm_bor {i : Nat} {tr : TA} {e : Ent} {t : T} (he : es[i]? = some e) (hv : e.val = some t) (h : wAm K R B ms tr g es fun xs g2 es2 => ∃ e2 x, es2[i]? = some e2 ∧ e2.val = some x ∧ pl (x :: xs) g2 es2) : wAm K R B (true :: ms) (tCons (tVar i) tr) g es pl := fun F σ H ok Q q => by
  obtain ⟨v, h1, _⟩ := ok.entF he hv
  refine ⟨v, h1, ?_⟩
  refine h F σ H ok _ fun vs ts g2 es2 F2 H2 l2 ok2 rs h2 => ?_
  obtain ⟨e2, x, q1, q2, h3⟩ := h2
  obtain ⟨v', z1, z2⟩ := ok2.entF q1 q2
  rw [h1] at z1
  cases z1
  exact q _ _ g2 es2 F2 H2 l2 ok2 (.bor z2 rs) h3
theorem we_call {pre : DSp R} {E : XK} {t : TA} (h : wAm K R B ms t g es fun ts g1 es1 => pre ts g1 fun z g2 => post z g2 es1) : wE K R B (tCall (spD K R ms pre) [] E t) g es post := fun F σ H ok Q q => by
  refine h F σ H ok _ fun vs ts g1 es1 F1 H1 l1 ok1 rs h1 => ?_
  rw [List.append_nil]
  exact ⟨F1, ts, g1, _, ok1.i, rs, h1, fun v t g2 F2 H2 tr i r p => q v t g2 es1 F2 H2 (l1.trans (.of tr)) (ok1.step tr i) r p⟩

/-! ### statements -/
theorem ws_seq {t u : TS} (h : wS K R B t g es { P with nx := fun g1 es1 => wS K R B u g1 es1 P }) : wS K R B (tSeq t u) g es P := fun F σ H ok D d => by
  refine h F σ H ok _ ⟨fun g1 es1 F1 σ1 H1 e1 ok1 h1 => h1 F1 σ1 H1 ok1 D (d.up e1), d.rt, d.bk, d.ct⟩
theorem ws_next (h : P.nx g es) : wS K R B tNext g es P := fun F σ H ok D d => d.nx _ _ _ _ _ (Evl.Ex.refl _) ok h
theorem ws_break (h : P.bk g es) : wS K R B tBreak g es P := fun F σ H ok D d => d.bk _ _ _ _ _ (Evl.Ex.refl _) ok h
theorem ws_cont (h : P.ct g es) : wS K R B tCont g es P := fun F σ H ok D d => d.ct _ _ _ _ _ (Evl.Ex.refl _) ok h
theorem ws_if {t u : TS} (h : wT K R B tt g es fun b g1 es1 => if b = true then wS K R B t g1 es1 P else wS K R B u g1 es1 P) : wS K R B (tIfS tt t u) g es P := fun F σ H ok D d => by
  refine h F σ H ok _ fun b g1 es1 F1 H1 l1 ok1 h1 => ?_
  cases b with
  | true => exact h1 F1 σ H1 ok1 D (d.up l1.f)
  | false => exact h1 F1 σ H1 ok1 D (d.up l1.f)
theorem ws_ret (h : wE K R B te g es fun t g' _ => P.rt t g') : wS K R B (tRet te) g es P := fun F σ H ok D d => by
  refine h F σ H ok _ fun v t g1 es1 F1 H1 l1 ok1 r h1 => ?_
  exact d.rt v t g1 F1 H1 l1.f ok1.i ok1.t r h1
theorem ws_retN (h : P.rt .non g) : wS K R B tRetN g es P := fun F σ H ok D d => d.rt _ _ _ _ _ (Evl.Ex.refl _) ok.i ok.t .non h
theorem ws_drop (h : wE K R B te g es fun _ g' es' => P.nx g' es') : wS K R B (tDrop te) g es P := fun F σ H ok D d => by
  refine h F σ H ok _ fun v t g1 es1 F1 H1 l1 ok1 r h1 => ?_
  exact d.nx _ _ _ _ _ l1.f ok1 h1
theorem ws_set {i : Nat} (h : wE K R B te g es fun t g' es' => P.nx g' (es'.set i (.dat t))) : wS K R B (tAsg te (gName i)) g es P := fun F σ H ok D d => by
  refine h F σ H ok _ fun v t g1 es1 F1 H1 l1 ok1 r h1 => ?_
  exact d.nx _ _ _ _ _ l1.f (ok1.set r) h1
theorem ws_setT {i j : Nat} (h : wE K R B te g es fun t g' es' => ∃ x y, t = .tup [x, y] ∧ P.nx g' ((es'.set i (.dat x)).set j (.dat y))) : wS K R B (tAsg te (gTup K 2 (gCons (gName i) (gCons (gName j) gNil)))) g es P := fun F σ H ok D d => by
  refine h F σ H ok _ fun v t g1 es1 F1 H1 l1 ok1 r h1 => ?_
  obtain ⟨x, y, rfl, h1⟩ := h1
  cases r with
  | tup h2 h3 =>
    cases h3 with
    | cons r1 h3 => cases h3 with
      | cons r2 h3 => cases h3 with
        | nil => exact ⟨_, _, rfl, Evl.ex_t ok1.i.ex h2, rfl, _, _, rfl, _, _, rfl, rfl, d.nx _ _ _ _ _ l1.f ((ok1.set r1).set r2) h1⟩
/-- x = [..], to be changed -/
theorem ws_setL {i : Nat} {t : TA} (h : wA K R B t g es fun ts g' es' => ts.length ≤ sizeLine ∧ P.nx g' (es'.set i (.lst ts))) : wS K R B (tAsg (tLst t) (gName i)) g es P := fun F σ H ok D d => by
  refine h F σ H ok _ fun vs ts g1 es1 F1 H1 l1 ok1 rs h1 => ?_
  refine ⟨by rw [rs.length]; exact h1.1, fun p hp => ?_⟩
  obtain ⟨tr, ii⟩ := Tr.lay (o := .lst vs) ok1.i hp
  have ok2 := ok1.step tr ii
  have fp : F1 p = none := Evl.fresh_back ok1.i.ex hp
  refine d.nx _ _ _ _ _ l1.f (ok2.setOwn (i := i) (a := p) (e := .lst ts) ⟨p, vs, rfl, upd_same, fp, fun z => R.pn ok1.i.res z hp, none_of ok1.t.al hp, rs⟩ fun z => (ok1.ownH z).1 hp) h1.2
theorem ws_setD {i : Nat} (h : P.nx g (es.set i (.dk []))) : wS K R B (tAsg tDNewK (gName i)) g es P := fun F σ H ok D d => fun p hp => by
  obtain ⟨tr, ii⟩ := Tr.lay (o := .dK []) ok.i hp
  have ok2 := ok.step tr ii
  have fp : F p = none := Evl.fresh_back ok.i.ex hp
  exact d.nx _ _ _ _ _ (Evl.Ex.refl _) (ok2.setOwn (i := i) (a := p) (e := .dk []) ⟨p, [], rfl, upd_same, fp, fun z => R.pn ok.i.res z hp, none_of ok.t.al hp, .nil⟩ fun z => (ok.ownH z).1 hp) h
/-- x.append(e), x an own list -/
theorem we_append {i : Nat} {ts0 : List T} (e0 : es[i]? = some (.lst ts0)) (h : wE K R B te g es fun t g' es' => ∃ ts, es'[i]? = some (.lst ts) ∧ ts.length < sizeLine ∧ post .non g' (es'.set i (.lst (ts ++ [t])))) :
    wE K R B (tBM K "list" rAppend (tVar i) (tCons te tNil)) g es post := fun F σ H ok Q q => by
  obtain ⟨s, h1, a, vs0, rfl, hH0, _⟩ := ok.ent i _ e0
  refine ⟨_, h1, .inl ⟨rfl, _, Evl.sq_of hH0⟩, ?_⟩
  refine h F σ H ok _ fun v t g1 es1 F1 H1 l1 ok1 r h2 => ?_
  obtain ⟨ts, e1, hl, hp⟩ := h2
  obtain ⟨s, h3, a', vs, rfl, hH, hF, hP, hB, rs⟩ := ok1.ent i _ e1
  rw [h1] at h3
  cases h3
  have ow : OwnA es1 σ a := ⟨i, _, e1, rfl, h1⟩
  refine ⟨a, vs, v, rfl, rfl, hH, by rw [rs.length]; exact hl, ?_⟩
  have ok2 := ok1.chg (o := .lst (vs ++ [v])) (e := .lst (ts ++ [t])) ow h1 ⟨_, e1, rfl⟩ ⟨a, _, rfl, upd_same, hF, hP, hB, rs.append (.cons r .nil)⟩
  refine q _ .non g1 _ F1 _ (l1.trans ⟨Evl.Ex.refl _, fun _ h => .inl h, fun b o z _ n => ?_, fun b z => ?_, fun _ h => .inl h, fun _ h => .inl h, fun b z => z.setO ⟨_, e1, rfl⟩⟩) ok2 .non hp
  · rw [upd_ne (fun e => n (by rw [e]; exact ow))]
    exact z
  · by_cases e : b = a
    · subst e
      rw [upd_same]
      intro z
      cases z
    · rw [upd_ne e]
      exact z
/-- x.pop(), x an own list -/
theorem we_pop {i : Nat} {ts : List T} {t : T} (e0 : es[i]? = some (.lst (ts ++ [t]))) (h : post t g (es.set i (.lst ts))) : wE K R B (tBM0 K "list" rPop (tVar i)) g es post := fun F σ H ok Q q => by
  obtain ⟨s, h1, a, vs, rfl, hH, hF, hP, hB, rs⟩ := ok.ent i _ e0
  have ow : OwnA es σ a := ⟨i, _, e0, rfl, h1⟩
  refine ⟨_, h1, .inl ⟨rfl, _, Evl.sq_of hH⟩, ?_⟩
  have el : vs.length = ts.length + 1 := by rw [rs.length]; simp
  obtain ⟨v, hv, r⟩ := rs.get (i := ts.length) (t := t) (by simp)
  have rs' : Reps K F vs.dropLast ts := by
    have := rs.dropLast
    rwa [List.dropLast_concat] at this
  refine ⟨a, vs, v, rfl, rfl, hH, by rw [el]; exact hv, ?_⟩
  have ok2 := ok.chg (o := .lst vs.dropLast) (e := .lst ts) ow h1 ⟨_, e0, rfl⟩ ⟨a, _, rfl, upd_same, hF, hP, hB, rs'⟩
  refine q _ t g _ F _ ⟨Evl.Ex.refl _, fun _ h => .inl h, fun b o z _ n => ?_, fun b z => ?_, fun _ h => .inl h, fun _ h => .inl h, fun b z => z.setO ⟨_, e0, rfl⟩⟩ ok2 r h
  · rw [upd_ne (fun e => n (by rw [e]; exact ow))]
    exact z
  · by_cases e : b = a
    · subst e
      rw [upd_same]
      intro z
      cases z
    · rw [upd_ne e]
      exact z
end
end Zc
/-! Z4: what is walked, targets, loops, comprehensions. -/
namespace Zc
open PySem L2

structure Src (K : PySem.W.Frag) (R : Rs) (J : It) (F1 : Hp) (xs : List T) : Prop where
  stop : ∀ g F H, R.I g F H → Ex F1 F → ∀ i, xs.length ≤ i → J.stop i H
  go : ∀ g F H, R.I g F H → Ex F1 F → ∀ i, i < xs.length → J.go i H
  yld : ∀ g F H, R.I g F H → Ex F1 F → ∀ i v H', i < xs.length → J.yld i H v H' → ∃ t F', xs[i]? = some t ∧ Tr R g F H g F' H' ∧ R.I g F' H' ∧ Rep K F' v t
def wI (K : PySem.W.Frag) (R : Rs) (B : Bs R) (wi : TI) (g : R.G) (es : List Ent) (post : List T → R.G → List Ent → Prop) : Prop :=
  ∀ F σ H, Ok K R B g es F σ H → ∀ Q : It → Hp → Prop, (∀ J xs g' es' F' H', Lc R σ g es F H g' es' F' H' → Ok K R B g' es' F' σ H' → Src K R J F' xs → post xs g' es' → Q J H') → wi σ H Q
section
variable {K : PySem.W.Frag} {R : Rs} {B : Bs R} {g g' : R.G} {es es' : List Ent} {F F' H H' : Hp} {σ : L2.St} {ta tb te : TE} {tt tu : TT} {post : T → R.G → List Ent → Prop} {pi : List T → R.G → List Ent → Prop} {P : Po R}
theorem src_list {a : Addr} {vs : List V} {ts : List T} {F1 : Hp} (h : SqL K F1 a vs) (hr : Reps K F1 vs ts) : Src K R (Itl K a) F1 ts := by
  have hl := hr.length
  refine ⟨fun g F H i e n hn => ⟨vs, Evl.ex_l (e.trans i.ex) h, by omega⟩, fun g F H i e n hn => ⟨vs, vs[n]'(by omega), Evl.ex_l (e.trans i.ex) h, by simp⟩, fun g F H i e n v H' hn y => ?_⟩
  obtain ⟨rfl, y⟩ := y
  obtain ⟨t, h1, h2⟩ := hr.get' (y vs (Evl.ex_l (e.trans i.ex) h))
  exact ⟨t, F, h1, .refl, i, h2.up e⟩
theorem src_tup {a : Addr} {vs : List V} {ts : List T} {F1 : Hp} (h : SqT K F1 a vs) (hr : Reps K F1 vs ts) : Src K R (Itt K a) F1 ts := by
  have hl := hr.length
  refine ⟨fun g F H i e n hn => ⟨vs, Evl.ex_t (e.trans i.ex) h, by omega⟩, fun g F H i e n hn => ⟨vs, vs[n]'(by omega), Evl.ex_t (e.trans i.ex) h, by simp⟩, fun g F H i e n v H' hn y => ?_⟩
  obtain ⟨rfl, y⟩ := y
  obtain ⟨t, h1, h2⟩ := hr.get' (y vs (Evl.ex_t (e.trans i.ex) h))
  exact ⟨t, F, h1, .refl, i, h2.up e⟩
def rangeT (lo : Int) (n : Nat) : List T := (List.range n).map fun i : Nat => .int (lo + (i : Int))
theorem rangeT_len (lo : Int) (n : Nat) : (rangeT lo n).length = n := by simp [rangeT]
theorem rangeT_get {lo : Int} {n i : Nat} (h : i < n) : (rangeT lo n)[i]? = some (.int (lo + i)) := by simp [rangeT, h]
theorem src_rng {lo : Int} {n : Nat} {F1 : Hp} : Src K R (Itr lo n) F1 (rangeT lo n) := by
  refine ⟨fun g F H i e k hk => by rw [rangeT_len] at hk; exact hk, fun g F H i e k hk => by rw [rangeT_len] at hk; exact hk, fun g F H i e k v H' hk y => ?_⟩
  rw [rangeT_len] at hk
  obtain ⟨rfl, rfl⟩ := y
  exact ⟨_, F, rangeT_get hk, .refl, i, .int _⟩
/-- (0, x), (1, y), .. -/
def enumT (ts : List T) : List T := ts.zipIdx.map fun p => .tup [.int (p.2 : Nat), p.1]
theorem enumT_len (ts : List T) : (enumT ts).length = ts.length := by simp [enumT]
theorem enumT_get {ts : List T} {i : Nat} {t : T} (h : ts[i]? = some t) : (enumT ts)[i]? = some (.tup [.int (i : Nat), t]) := by simp [enumT, h]
theorem src_enum {a : Addr} {vs : List V} {ts : List T} {F1 : Hp} (h : SqL K F1 a vs) (hr : Reps K F1 vs ts) : Src K R (Ite K a) F1 (enumT ts) := by
  have hl := hr.length
  refine ⟨fun g F H i e n hn => ⟨vs, Evl.ex_l (e.trans i.ex) h, by rw [enumT_len] at hn; omega⟩, fun g F H i e n hn => ⟨vs, vs[n]'(by rw [enumT_len] at hn; omega), Evl.ex_l (e.trans i.ex) h, by simp⟩, fun g F H i e n v H' hn y => ?_⟩
  obtain ⟨T, x, rfl, hT, rfl, y⟩ := y
  obtain ⟨t, h1, h2⟩ := hr.get' (y vs (Evl.ex_l (e.trans i.ex) h))
  obtain ⟨tr, ii⟩ := Tr.new (o := .tup [.int (n : Nat), x]) i hT
  exact ⟨_, _, enumT_get h1, tr, ii, .tup (Evl.st_of upd_same) (.cons (.int _) (.cons ((h2.up e).up tr.f) .nil))⟩
def zipT (ts us : List T) : List T := (ts.zip us).map fun p => .tup [p.1, p.2]
theorem zipT_len (ts us : List T) : (zipT ts us).length = min ts.length us.length := by simp [zipT]
theorem zipT_get {ts us : List T} {i : Nat} {t u : T} (h : ts[i]? = some t) (h' : us[i]? = some u) : (zipT ts us)[i]? = some (.tup [t, u]) := by simp [zipT, List.getElem?_zip_eq_some.mpr (⟨h, h'⟩ : ts[i]? = some (t, u).1 ∧ us[i]? = some (t, u).2)]
theorem src_zip {a b : Addr} {vs ws : List V} {ts us : List T} {F1 : Hp} (h : SqL K F1 a vs) (hr : Reps K F1 vs ts) (h' : SqL K F1 b ws) (hr' : Reps K F1 ws us) : Src K R (Itz K a b) F1 (zipT ts us) := by
  have hl := hr.length
  have hl' := hr'.length
  refine ⟨fun g F H i e n hn => ⟨vs, ws, Evl.ex_l (e.trans i.ex) h, Evl.ex_l (e.trans i.ex) h', by rw [zipT_len] at hn; omega⟩, fun g F H i e n hn => ⟨vs, ws, vs[n]'(by rw [zipT_len] at hn; omega), ws[n]'(by rw [zipT_len] at hn; omega), Evl.ex_l (e.trans i.ex) h, Evl.ex_l (e.trans i.ex) h', by simp, by simp⟩, fun g F H i e n v H' hn y => ?_⟩
  obtain ⟨T, x, y', rfl, hT, rfl, y1, y2⟩ := y
  obtain ⟨t, h1, h2⟩ := hr.get' (y1 vs (Evl.ex_l (e.trans i.ex) h))
  obtain ⟨u, h3, h4⟩ := hr'.get' (y2 ws (Evl.ex_l (e.trans i.ex) h'))
  obtain ⟨tr, ii⟩ := Tr.new (o := .tup [x, y']) i hT
  exact ⟨_, _, zipT_get h1 h3, tr, ii, .tup (Evl.st_of upd_same) (.cons ((h2.up e).up tr.f) (.cons ((h4.up e).up tr.f) .nil))⟩
theorem wi_list (h : wE K R B te g es fun t g' es' => ∃ xs, t = .lst xs ∧ pi xs g' es') : wI K R B (iList K te) g es pi := fun F σ H ok Q q => by
  refine h F σ H ok _ fun v t g1 es1 F1 H1 l1 ok1 r h1 => ?_
  obtain ⟨xs, rfl, h1⟩ := h1
  cases r with
  | lst h2 h3 => exact ⟨_, rfl, ⟨_, Evl.ex_l ok1.i.ex h2⟩, q _ xs g1 es1 F1 H1 l1 ok1 (src_list h2 h3) h1⟩
theorem wi_tup (h : wE K R B te g es fun t g' es' => ∃ xs, t = .tup xs ∧ pi xs g' es') : wI K R B (iTup K te) g es pi := fun F σ H ok Q q => by
  refine h F σ H ok _ fun v t g1 es1 F1 H1 l1 ok1 r h1 => ?_
  obtain ⟨xs, rfl, h1⟩ := h1
  cases r with
  | tup h2 h3 => exact ⟨_, rfl, ⟨_, Evl.ex_t ok1.i.ex h2⟩, q _ xs g1 es1 F1 H1 l1 ok1 (src_tup h2 h3) h1⟩
theorem wi_rng1 {t : TA} (h : wA K R B t g es fun ts g' es' => ∃ j : Int, ts = [.int j] ∧ (-(2 ^ 62) ≤ j ∧ j < 2 ^ 62) ∧ pi (rangeT 0 j.toNat) g' es') : wI K R B (iRng1 t) g es pi := fun F σ H ok Q q => by
  refine h F σ H ok _ fun v t g1 es1 F1 H1 l1 ok1 r h1 => ?_
  obtain ⟨j, rfl, ⟨b1, b2⟩, h1⟩ := h1
  cases r with
  | cons r1 r => cases r with
    | nil =>
      cases r1
      exact ⟨j, rfl, b1, b2, q _ _ g1 es1 F1 H1 l1 ok1 src_rng h1⟩
theorem wi_rng2 {t : TA} (h : wA K R B t g es fun ts g' es' => ∃ i j : Int, ts = [.int i, .int j] ∧ (-(2 ^ 62) ≤ i ∧ i < 2 ^ 62 ∧ -(2 ^ 62) ≤ j ∧ j < 2 ^ 62) ∧ pi (rangeT i (j - i).toNat) g' es') : wI K R B (iRng2 t) g es pi := fun F σ H ok Q q => by
  refine h F σ H ok _ fun v t g1 es1 F1 H1 l1 ok1 r h1 => ?_
  obtain ⟨i, j, rfl, b, h1⟩ := h1
  cases r with
  | cons r1 r => cases r with
    | cons r2 r => cases r with
      | nil =>
        cases r1
        cases r2
        exact ⟨i, j, rfl, b, q _ _ g1 es1 F1 H1 l1 ok1 src_rng h1⟩
theorem wi_enum {t : TA} (h : wA K R B t g es fun ts g' es' => ∃ xs, ts = [.lst xs] ∧ pi (enumT xs) g' es') : wI K R B (iEnum K t) g es pi := fun F σ H ok Q q => by
  refine h F σ H ok _ fun v t g1 es1 F1 H1 l1 ok1 r h1 => ?_
  obtain ⟨xs, rfl, h1⟩ := h1
  cases r with
  | cons r1 r => cases r with
    | nil => cases r1 with
      | lst h2 h3 => exact ⟨_, _, rfl, Evl.ex_l ok1.i.ex h2, q _ _ g1 es1 F1 H1 l1 ok1 (src_enum h2 h3) h1⟩
theorem wi_zip {t : TA} (h : wA K R B t g es fun ts g' es' => ∃ xs ys, ts = [.lst xs, .lst ys] ∧ pi (zipT xs ys) g' es') : wI K R B (iZip K t) g es pi := fun F σ H ok Q q => by
  refine h F σ H ok _ fun v t g1 es1 F1 H1 l1 ok1 r h1 => ?_
  obtain ⟨xs, ys, rfl, h1⟩ := h1
  cases r with
  | cons r1 r => cases r with
    | cons r2 r => cases r with
      | nil => cases r1 with
        | lst h2 h3 => cases r2 with
          | lst h4 h5 => exact ⟨_, _, _, _, rfl, Evl.ex_l ok1.i.ex h2, Evl.ex_l ok1.i.ex h4, q _ _ g1 es1 F1 H1 l1 ok1 (src_zip h2 h3 h4 h5) h1⟩

/-! ### targets -/
def Off (vs : List Nat) (σ σ' : L2.St) : Prop := σ'.length = σ.length ∧ ∀ j, j ∉ vs → σ'[j]? = σ[j]?
theorem Off.refl (vs : List Nat) (σ : L2.St) : Off vs σ σ := ⟨rfl, fun _ _ => rfl⟩
theorem Off.trans {vs : List Nat} {σ1 σ2 σ3 : L2.St} (a : Off vs σ1 σ2) (b : Off vs σ2 σ3) : Off vs σ1 σ3 := ⟨b.1.trans a.1, fun j h => (b.2 j h).trans (a.2 j h)⟩
theorem Off.set {vs : List Nat} {σ : L2.St} {i : Nat} {s : Option V} (h : i ∈ vs) : Off vs σ (σ.set i s) := ⟨by simp, fun j hj => List.getElem?_set_ne (fun e => hj (by rw [← e]; exact h))⟩
theorem wipe_get (σ : L2.St) : ∀ (vs : List Nat) (j : Nat), (wipe σ vs)[j]? = if j ∈ vs then (if j < σ.length then some none else none) else σ[j]?
  | [], j => by simp [wipe]
  | v :: vs, j => by
    unfold wipe
    by_cases e : v = j
    · subst e
      by_cases hl : v < σ.length
      · rw [List.getElem?_set_self (by rw [wipe_length]; exact hl)]
        simp [hl]
      · rw [List.getElem?_eq_none (by simp [wipe_length]; omega)]
        simp [hl]
    · rw [List.getElem?_set_ne e, wipe_get σ vs j]
      have e2 : ¬ j = v := fun z => e z.symm
      by_cases hj : j ∈ vs
      · simp [hj]
      · simp [hj, e2]
theorem Off.wipe (vs : List Nat) (σ : L2.St) : Off vs σ (wipe σ vs) := ⟨wipe_length σ vs, fun j h => by rw [wipe_get, if_neg h]⟩
theorem wipe_off {vs : List Nat} {σ σ' : L2.St} (h : Off vs σ σ') : L2.wipe σ' vs = L2.wipe σ vs := by
  refine List.ext_getElem? fun j => ?_
  rw [wipe_get, wipe_get, h.1]
  by_cases hj : j ∈ vs
  · simp [hj]
  · rw [if_neg hj, if_neg hj, h.2 j hj]
def wipeE (es : List Ent) : List Nat → List Ent
  | [] => es
  | v :: vs => (wipeE es vs).set v .any
theorem Ok.wipe (x : Ok K R B g es F σ H) : ∀ vs : List Nat, Ok K R B g (wipeE es vs) F (wipe σ vs) H
  | [] => x
  | v :: vs => by
    have y := (x.wipe vs).forget v
    unfold wipeE L2.wipe
    refine ⟨y.i, y.t, by simpa using y.len, fun j e h => ?_, fun j k e e' a n h1 h2 h3 h4 h5 h6 => ?_⟩
    · rcases set_get h with ⟨rfl, rfl, hl⟩ | ⟨ne, h⟩
      · exact ⟨none, List.getElem?_set_self (by rw [(x.wipe vs).len]; exact hl), trivial⟩
      · rw [List.getElem?_set_ne ne]
        exact y.ent j e (by rw [List.getElem?_set_ne ne]; exact h)
    · rcases set_get h1 with ⟨rfl, rfl, _⟩ | ⟨n1, k1⟩
      · cases h3
      · rcases set_get h2 with ⟨rfl, rfl, _⟩ | ⟨n2, k2⟩
        · cases h4
        · rw [List.getElem?_set_ne n1] at h5
          rw [List.getElem?_set_ne n2] at h6
          exact y.dis j k e e' a n h1 h2 h3 h4 h5 h6
def OffE (vs : List Nat) (es es' : List Ent) : Prop := es'.length = es.length ∧ ∀ j, j ∉ vs → es'[j]? = es[j]?
theorem OffE.wipe (es : List Ent) : ∀ vs : List Nat, OffE vs es (wipeE es vs)
  | [] => ⟨rfl, fun _ _ => rfl⟩
  | v :: vs => by
    have := OffE.wipe es vs
    unfold wipeE
    refine ⟨by simp [this.1], fun j h => ?_⟩
    have h1 : v ≠ j := fun e => h (by simp [e])
    have h2 : j ∉ vs := fun e => h (by simp [e])
    rw [List.getElem?_set_ne h1]
    exact this.2 j h2
/-- a target: what it binds, which slots -/
structure Tgt (K : PySem.W.Frag) (tg : TG) (vs : List Nat) (bind : T → List Ent → List Ent → Prop) : Prop where
  run : ∀ (R : Rs) (B : Bs R) (g : R.G) (es es' : List Ent) (F H : Hp) (σ : L2.St) (v : V) (t : T), Ok K R B g es F σ H → Rep K F v t → bind t es es' →
    ∃ σ', Ok K R B g es' F σ' H ∧ Off vs σ σ' ∧ OffE vs es es' ∧ ∀ Q : L2.St → Hp → Prop, Q σ' H → tg v σ H Q
theorem tgt_name (i : Nat) (vs : List Nat) (h : i ∈ vs) : Tgt K (gName i) vs fun t es es' => es' = es.set i (.dat t) := by
  refine ⟨fun R B g es es' F H σ v t ok r e => ?_⟩
  subst e
  exact ⟨_, ok.set r, .set h, ⟨by simp, fun j hj => List.getElem?_set_ne (fun e => hj (by rw [← e]; exact h))⟩, fun Q q => q⟩
theorem tgt_tup (i j : Nat) (vs : List Nat) (h : i ∈ vs) (h' : j ∈ vs) : Tgt K (gTup K 2 (gCons (gName i) (gCons (gName j) gNil))) vs fun t es es' => ∃ x y, t = .tup [x, y] ∧ es' = (es.set i (.dat x)).set j (.dat y) := by
  refine ⟨fun R B g es es' F H σ v t ok r e => ?_⟩
  obtain ⟨x, y, rfl, rfl⟩ := e
  cases r with
  | tup h2 h3 =>
    cases h3 with
    | cons r1 h3 => cases h3 with
      | cons r2 h3 => cases h3 with
        | nil =>
          refine ⟨_, (ok.set r1).set r2, (Off.set h).trans (Off.set h'), ⟨by simp, fun k hk => ?_⟩, fun Q q => ⟨_, _, rfl, Evl.ex_t ok.i.ex h2, rfl, _, _, rfl, _, _, rfl, rfl, q⟩⟩
          rw [List.getElem?_set_ne (fun e => hk (by rw [← e]; exact h')), List.getElem?_set_ne (fun e => hk (by rw [← e]; exact h))]
theorem tgt_tup3 (i j k : Nat) (vs : List Nat) (h : i ∈ vs) (h' : j ∈ vs) (h'' : k ∈ vs) : Tgt K (gTup K 3 (gCons (gName i) (gCons (gName j) (gCons (gName k) gNil)))) vs fun t es es' => ∃ x y z, t = .tup [x, y, z] ∧ es' = ((es.set i (.dat x)).set j (.dat y)).set k (.dat z) := by
  refine ⟨fun R B g es es' F H σ v t ok r e => ?_⟩
  obtain ⟨x, y, z, rfl, rfl⟩ := e
  cases r with
  | tup h2 h3 =>
    cases h3 with
    | cons r1 h3 => cases h3 with
      | cons r2 h3 => cases h3 with
        | cons r3 h3 => cases h3 with
          | nil =>
            refine ⟨_, ((ok.set r1).set r2).set r3, ((Off.set h).trans (Off.set h')).trans (Off.set h''), ⟨by simp, fun l hl => ?_⟩, fun Q q => ⟨_, _, rfl, Evl.ex_t ok.i.ex h2, rfl, _, _, rfl, _, _, rfl, _, _, rfl, rfl, q⟩⟩
            rw [List.getElem?_set_ne (fun e => hl (by rw [← e]; exact h'')), List.getElem?_set_ne (fun e => hl (by rw [← e]; exact h')), List.getElem?_set_ne (fun e => hl (by rw [← e]; exact h))]
theorem ws_asgT {tg : TG} {vs : List Nat} {bind : T → List Ent → List Ent → Prop} (G : Tgt K tg vs bind) (h : wE K R B te g es fun t g' es' => ∃ es2, bind t es' es2 ∧ P.nx g' es2) : wS K R B (tAsg te tg) g es P := fun F σ H ok D d => by
  refine h F σ H ok _ fun v t g1 es1 F1 H1 l1 ok1 r h1 => ?_
  obtain ⟨es2, hb, hp⟩ := h1
  obtain ⟨σ2, ok2, _, _, run⟩ := G.run R B g1 es1 es2 F1 H1 σ v t ok1 r hb
  exact run _ (d.nx _ _ _ _ _ l1.f ok2 hp)

/-! ### loops -/
theorem ws_for {wi : TI} {tg : TG} {tb : TS} {vs : List Nat} {bind : T → List Ent → List Ent → Prop} (G : Tgt K tg vs bind)
    (h : wI K R B wi g es fun xs g1 es1 => ∃ Iv : Nat → R.G → List Ent → Prop, Iv 0 g1 es1 ∧
      (∀ n x g2 es2, xs[n]? = some x → Iv n g2 es2 → ∃ eb, bind x es2 eb ∧ wS K R B tb g2 eb { nx := Iv (n + 1), rt := P.rt, bk := P.nx, ct := Iv (n + 1) }) ∧ (∀ g2 es2, Iv xs.length g2 es2 → P.nx g2 es2)) :
    wS K R B (tFor wi tg tb) g es P := fun F σ H ok D d => by
  refine h F σ H ok _ fun J xs g1 es1 F1 H1 l1 ok1 src h1 => ?_
  obtain ⟨Iv, i0, ih, iN⟩ := h1
  refine ⟨fun n m σ H => m = xs.length - n ∧ n ≤ xs.length ∧ ∃ g2 es2 F2, Ex F1 F2 ∧ Ok K R B g2 es2 F2 σ H ∧ Iv n g2 es2, ⟨_, rfl, Nat.zero_le _, g1, es1, F1, Evl.Ex.refl _, ok1, i0⟩, ?_⟩
  rintro n m σ' H' ⟨rfl, hn, g2, es2, F2, e2, ok2, iv⟩
  by_cases hlt : n < xs.length
  · refine .inr ⟨src.go g2 F2 H' ok2.i e2 n hlt, fun σ3 H3 => ∃ g3 es3 F3, Ex F1 F3 ∧ Ok K R B g3 es3 F3 σ3 H3 ∧ Iv (n + 1) g3 es3, fun σ3 H3 ⟨g3, es3, F3, e3, ok3, iv3⟩ => ⟨xs.length - (n + 1), by omega, rfl, hlt, g3, es3, F3, e3, ok3, iv3⟩, fun v H3 y => ?_⟩
    obtain ⟨t, F3, ht, tr, ii, r⟩ := src.yld g2 F2 H' ok2.i e2 n v H3 hlt y
    obtain ⟨eb, hb, hs⟩ := ih n t g2 es2 ht iv
    have ok3 := ok2.step tr ii
    obtain ⟨σb, okb, _, _, run⟩ := G.run R B g2 es2 eb F3 H3 σ' v t ok3 r hb
    refine run _ (hs F3 σb H3 okb _ ⟨fun g4 es4 F4 σ4 H4 e4 ok4 p4 => ⟨g4, es4, F4, (e2.trans tr.f).trans e4, ok4, p4⟩, fun v t g4 F4 H4 e4 => d.rt v t g4 F4 H4 (((l1.f.trans e2).trans tr.f).trans e4),
      fun g4 es4 F4 σ4 H4 e4 => d.nx g4 es4 F4 σ4 H4 (((l1.f.trans e2).trans tr.f).trans e4), fun g4 es4 F4 σ4 H4 e4 ok4 p4 => ⟨g4, es4, F4, (e2.trans tr.f).trans e4, ok4, p4⟩⟩)
  · have e : n = xs.length := by omega
    subst e
    exact .inl ⟨src.stop g2 F2 H' ok2.i e2 _ (Nat.le_refl _), d.nx _ _ _ _ _ (l1.f.trans e2) ok2 (iN _ _ iv)⟩
theorem ws_while {tb : TS} (Iv : Nat → R.G → List Ent → Prop) (h0 : ∃ m, Iv m g es)
    (h : ∀ m g2 es2, Iv m g2 es2 → wT K R B tt g2 es2 fun b g3 es3 => if b = true then wS K R B tb g3 es3 { nx := fun g4 es4 => ∃ m', m' < m ∧ Iv m' g4 es4, rt := P.rt, bk := P.nx, ct := fun g4 es4 => ∃ m', m' < m ∧ Iv m' g4 es4 } else P.nx g3 es3) :
    wS K R B (tWhile tt tb) g es P := fun F σ H ok D d => by
  obtain ⟨m0, i0⟩ := h0
  refine ⟨fun m σ' H' => ∃ g2 es2 F2, Ex F F2 ∧ Ok K R B g2 es2 F2 σ' H' ∧ Iv m g2 es2, ⟨m0, g, es, F, Evl.Ex.refl _, ok, i0⟩, ?_⟩
  rintro m σ' H' ⟨g2, es2, F2, e2, ok2, iv⟩
  refine h m g2 es2 iv F2 σ' H' ok2 _ fun b g3 es3 F3 H3 l3 ok3 h3 => ?_
  cases b with
  | true =>
    refine ⟨fun σ4 H4 => ∃ m', m' < m ∧ ∃ g4 es4 F4, Ex F F4 ∧ Ok K R B g4 es4 F4 σ4 H4 ∧ Iv m' g4 es4, fun σ4 H4 z => z, ?_⟩
    refine h3 F3 σ' H3 ok3 _ ⟨fun g4 es4 F4 σ4 H4 e4 ok4 p4 => ?_, fun v t g4 F4 H4 e4 => d.rt v t g4 F4 H4 ((e2.trans l3.f).trans e4), fun g4 es4 F4 σ4 H4 e4 => d.nx g4 es4 F4 σ4 H4 ((e2.trans l3.f).trans e4), fun g4 es4 F4 σ4 H4 e4 ok4 p4 => ?_⟩
    · obtain ⟨m', hm, iv'⟩ := p4
      exact ⟨m', hm, g4, es4, F4, (e2.trans l3.f).trans e4, ok4, iv'⟩
    · obtain ⟨m', hm, iv'⟩ := p4
      exact ⟨m', hm, g4, es4, F4, (e2.trans l3.f).trans e4, ok4, iv'⟩
  | false => exact d.nx _ _ _ _ _ (e2.trans l3.f) ok3 h3

/-! ### comprehensions -/
def NoOwn (vs : List Nat) (es : List Ent) : Prop := ∀ i e, i ∈ vs → es[i]? = some e → e.own = false
theorem Ok.back {vs : List Nat} {eb : List Ent} {σb : L2.St} (x : Ok K R B g es F σ H) (y : Ok K R B g' eb F' σb H') (e : Ex F F') (hσ : Off vs σ σb) (he : OffE vs es eb) (hn : NoOwn vs es) : Ok K R B g' es F' σ H' := by
  refine ⟨y.i, y.t, x.len, fun j u h => ?_, fun j k u u' a n h1 h2 h3 h4 h5 h6 => ?_⟩
  · by_cases hj : j ∈ vs
    · obtain ⟨s, h1, h2⟩ := x.ent j u h
      refine ⟨s, h1, ?_⟩
      have no := hn j u hj h
      cases u with
      | any => trivial
      | dat t =>
        obtain ⟨v, q1, q2⟩ := h2
        exact ⟨v, q1, q2.up e⟩
      | bor t => exact h2
      | lst _ => cases no
      | dk _ => cases no
    · obtain ⟨s, h1, h2⟩ := y.ent j u (by rw [he.2 j hj]; exact h)
      exact ⟨s, by rw [← hσ.2 j hj]; exact h1, h2⟩
  · have j1 : j ∉ vs := fun z => by
      rw [hn j u z h1] at h3
      cases h3
    have k1 : k ∉ vs := fun z => by
      rw [hn k u' z h2] at h4
      cases h4
    exact y.dis j k u u' a n (by rw [he.2 j j1]; exact h1) (by rw [he.2 k k1]; exact h2) h3 h4 (by rw [hσ.2 j j1]; exact h5) (by rw [hσ.2 k k1]; exact h6)
theorem OwnA.back {vs : List Nat} {eb : List Ent} {σb : L2.St} {a : Addr} (h : OwnA eb σb a) (hσ : Off vs σ σb) (he : OffE vs es eb) (hb : NoOwn vs eb) : OwnA es σ a := by
  obtain ⟨j, e, h1, h2, h3⟩ := h
  have j1 : j ∉ vs := fun z => by
    rw [hb j e z h1] at h2
    cases h2
  exact ⟨j, e, by rw [← he.2 j j1]; exact h1, h2, by rw [← hσ.2 j j1]; exact h3⟩
theorem Lc.back {vs : List Nat} {eb : List Ent} {σb : L2.St} (l : Lc R σb g eb F H g' eb F' H') (hσ : Off vs σ σb) (he : OffE vs es eb) (hb : NoOwn vs eb) : Lc R σ g es F H g' es F' H' := by
  refine ⟨l.f, fun a h => ?_, fun a o h m n => l.kp a o h m fun z => n (z.back hσ he hb), l.al, l.pp, l.mm, fun _ h => h⟩
  rcases l.nw a h with h | h | h | h
  · exact .inl h
  · exact .inr (.inl h)
  · exact .inr (.inr (.inl h))
  · exact .inr (.inr (.inr (h.back hσ he hb)))
/-- an object that is being made, no slot's -/
structure Mk1 (R : Rs) (B : Bs R) (g : R.G) (es : List Ent) (F : Hp) (σ : L2.St) (H : Hp) (D : Addr) (o : HO) : Prop where
  at_ : H D = some o
  nf : F D = none
  np : ¬ R.P g D
  nb : B.H D = none
  no : ¬ OwnA es σ D
theorem Mk1.lc {D : Addr} {o : HO} (m : Mk1 R B g es F σ H D o) (l : Lc R σ g es F H g' es' F' H') : Mk1 R B g' es' F' σ H' D o := by
  refine ⟨l.kp D o m.at_ (fun z => m.np (R.mp z)) m.no, ?_, fun z => ?_, m.nb, fun z => m.no (l.ow D z)⟩
  · cases q : F' D with
    | none => rfl
    | some u =>
      rcases l.nw D (ne_none q) with h | h | h | h
      · exact absurd m.nf h
      · rw [m.at_] at h
        cases h
      · exact absurd h m.np
      · exact absurd h m.no
  · rcases l.pp D z with h | h
    · exact m.np h
    · rw [m.at_] at h
      cases h
theorem we_lc {wi : TI} {tg : TG} {vs : List Nat} {bind : T → List Ent → List Ent → Prop} (G : Tgt K tg vs bind)
    (h : wI K R B wi g es fun xs g1 es1 => NoOwn vs es1 ∧ ∃ Iv : Nat → List T → R.G → Prop, Iv 0 [] g1 ∧
      (∀ n x acc g2, xs[n]? = some x → Iv n acc g2 → ∃ eb, bind x (wipeE es1 vs) eb ∧ NoOwn vs eb ∧ wT K R B tt g2 eb fun b g3 e3 => e3 = eb ∧
        if b = true then wE K R B te g3 eb fun y g4 e4 => e4 = eb ∧ acc.length < sizeLine ∧ Iv (n + 1) (acc ++ [y]) g4 else Iv (n + 1) acc g3) ∧ (∀ acc g2, Iv xs.length acc g2 → post (.lst acc) g2 es1)) :
    wE K R B (tLc wi tg tt te vs) g es post := fun F σ H ok Q q => by
  refine h F σ H ok _ fun J xs g1 es1 F1 H1 l1 ok1 src h1 => ?_
  obtain ⟨no, Iv, i0, ih, iN⟩ := h1
  intro D hD
  have nD : ¬ OwnA es1 σ D := fun z => (ok1.ownH z).1 hD
  refine ⟨fun n m H => m = xs.length - n ∧ n ≤ xs.length ∧ ∃ acc us g2 F2, Lc R σ g1 es1 F1 H1 g2 es1 F2 H ∧ Ok K R B g2 es1 F2 σ H ∧ Mk1 R B g2 es1 F2 σ H D (.lst us) ∧ Reps K F2 us acc ∧ Iv n acc g2, ⟨_, rfl, Nat.zero_le _, [], [], g1, F1, ?_⟩, ?_⟩
  · obtain ⟨tr, ii⟩ := Tr.lay (o := .lst []) ok1.i hD
    exact ⟨.of tr, ok1.step tr ii, ⟨upd_same, Evl.fresh_back ok1.i.ex hD, fun z => R.pn ok1.i.res z hD, none_of ok1.t.al hD, nD⟩, .nil, i0⟩
  rintro n m H' ⟨rfl, hn, acc, us, g2, F2, l2, ok2, mk, rs, iv⟩
  by_cases hlt : n < xs.length
  · refine .inr ⟨src.go g2 F2 H' ok2.i l2.f n hlt, fun H3 => ∃ acc us g3 F3, Lc R σ g1 es1 F1 H1 g3 es1 F3 H3 ∧ Ok K R B g3 es1 F3 σ H3 ∧ Mk1 R B g3 es1 F3 σ H3 D (.lst us) ∧ Reps K F3 us acc ∧ Iv (n + 1) acc g3, fun H3 ⟨acc, us, g3, F3, z⟩ => ⟨xs.length - (n + 1), by omega, rfl, hlt, acc, us, g3, F3, z⟩, fun v H3 y => ?_⟩
    obtain ⟨t, F3, ht, tr, ii, r⟩ := src.yld g2 F2 H' ok2.i l2.f n v H3 hlt y
    obtain ⟨eb, hb, nob, hs⟩ := ih n t acc g2 ht iv
    have ok3 := ok2.step tr ii
    have mk3 := mk.lc (.of (σ := σ) tr)
    have l3 : Lc R σ g1 es1 F1 H1 g2 es1 F3 H3 := l2.trans (.of tr)
    obtain ⟨σb, okb, off, offE, run⟩ := G.run R B g2 (wipeE es1 vs) eb F3 H3 (wipe σ vs) v t (ok3.wipe vs) r hb
    have offσ : Off vs σ σb := (Off.wipe vs σ).trans off
    have offe : OffE vs es1 eb := ⟨offE.1.trans (OffE.wipe es1 vs).1, fun j hj => (offE.2 j hj).trans ((OffE.wipe es1 vs).2 j hj)⟩
    refine run _ ⟨by rw [wipe_off off, wipe_off (Off.wipe vs σ)], ?_⟩
    refine hs F3 σb H3 okb _ fun b g4 e4 F4 H4 l4 ok4 h4 => ?_
    obtain ⟨rfl, h4⟩ := h4
    have l4' : Lc R σ g2 es1 F3 H3 g4 es1 F4 H4 := l4.back offσ offe nob
    cases b with
    | false => exact ⟨acc, us, g4, F4, l3.trans l4', ok3.back ok4 l4.f offσ offe no, mk3.lc l4', (rs.up tr.f).up l4.f, h4⟩
    | true =>
      refine h4 F4 σb H4 ok4 _ fun w y g5 e5 F5 H5 l5 ok5 ry h5 => ?_
      obtain ⟨rfl, hl, iv5⟩ := h5
      have l5' : Lc R σ g4 es1 F4 H4 g5 es1 F5 H5 := l5.back offσ offe nob
      have mk5 := (mk3.lc l4').lc l5'
      have rs5 : Reps K F5 us acc := ((rs.up tr.f).up l4.f).up l5.f
      have okE : Ok K R B g5 es1 F5 σ H5 := (ok3.back ok4 l4.f offσ offe no).back ok5 l5.f offσ offe no
      refine ⟨us, mk5.at_, by rw [rs5.length]; exact hl, acc ++ [y], us ++ [w], g5, F5, ?_, okE.put mk5.nf mk5.np mk5.nb mk5.no, ⟨upd_same, mk5.nf, mk5.np, mk5.nb, mk5.no⟩, rs5.append (.cons ry .nil), iv5⟩
      have l6 := (l3.trans l4').trans l5'
      refine ⟨l6.f, l6.nw, fun a o z m n => ?_, fun a z => ?_, l6.pp, l6.mm, l6.ow⟩
      · rw [upd_ne (ne_of_none z hD)]
        exact l6.kp a o z m n
      · obtain ⟨u, z'⟩ := some_of z
        rw [upd_ne (ne_of_none z' hD)]
        exact l6.al a z
  · have e : n = xs.length := by omega
    subst e
    refine .inl ⟨src.stop g2 F2 H' ok2.i l2.f _ (Nat.le_refl _), ?_⟩
    have ex : Ex F2 (upd F2 D (.lst us)) := Evl.Ex.new mk.nf
    refine q _ (.lst acc) g2 es1 (upd F2 D (.lst us)) H' (l1.trans ⟨l2.f.trans ex, fun a z => ?_, l2.kp, l2.al, l2.pp, l2.mm, l2.ow⟩) (ok2.frz mk.at_ mk.nf mk.np mk.nb mk.no) (.lst (Evl.sq_of upd_same) (rs.up ex)) (iN _ _ iv)
    by_cases ea : a = D
    · subst ea
      exact .inr (.inl hD)
    · rw [upd_ne ea] at z
      exact l2.nw a z
/-- a key -/
def T.key : T → Option Key
  | .int i => some (.inl i) | .str x => some (.inr x) | _ => none
theorem Rep.key {v : V} {t : T} {k : Key} (r : Rep K F v t) (h : t.key = some k) : v = kV k := by
  cases r <;> cases h <;> rfl
def putT (kvs : List (Key × T)) (k : Key) (v : T) : List (Key × T) :=
  if (kvs.any fun kv => decide (kv.1 = k)) = true then kvs.map (fun kv => if kv.1 = k then (kv.1, v) else kv) else kvs ++ [(k, v)]
def valT (kvs : List (Key × T)) (k : Key) : Option T := (kvs.find? fun kv => decide (kv.1 = k)).map (·.2)
theorem RepK.any : ∀ {vs : List (Key × V)} {ts : List (Key × T)} {k : Key}, RepK K F vs ts → (vs.any fun kv => decide (kv.1 = k)) = (ts.any fun kv => decide (kv.1 = k))
  | _, _, _, .nil => rfl
  | _, _, k, .cons a b => by
    rw [List.any_cons, List.any_cons, RepK.any b]
theorem RepK.map : ∀ {vs : List (Key × V)} {ts : List (Key × T)} {k : Key} {v : V} {t : T}, RepK K F vs ts → Rep K F v t → RepK K F (vs.map fun kv => if kv.1 = k then (kv.1, v) else kv) (ts.map fun kv => if kv.1 = k then (kv.1, t) else kv)
  | _, _, _, _, _, .nil, _ => .nil
  | _, _, k, v, t, .cons (k := k0) a b, r => by
    rw [List.map_cons, List.map_cons]
    by_cases e : k0 = k
    · rw [if_pos e, if_pos e]
      exact .cons r (RepK.map b r)
    · rw [if_neg e, if_neg e]
      exact .cons a (RepK.map b r)
theorem RepK.app : ∀ {vs ws : List (Key × V)} {ts us : List (Key × T)}, RepK K F vs ts → RepK K F ws us → RepK K F (vs ++ ws) (ts ++ us)
  | _, _, _, _, .nil, h => h
  | _, _, _, _, .cons a b, h => .cons a (RepK.app b h)
theorem RepK.put {vs : List (Key × V)} {ts : List (Key × T)} {k : Key} {v : V} {t : T} (h : RepK K F vs ts) (r : Rep K F v t) : RepK K F (putK vs k v) (putT ts k t) := by
  unfold putK putT
  rw [h.any]
  by_cases e : (ts.any fun kv => decide (kv.1 = k)) = true
  · rw [if_pos e, if_pos e]
    exact h.map r
  · rw [if_neg e, if_neg e]
    exact h.app (.cons r .nil)
theorem RepK.val : ∀ {vs : List (Key × V)} {ts : List (Key × T)} {k : Key}, RepK K F vs ts → (∀ t, valT ts k = some t → ∃ v, valV vs k = some v ∧ Rep K F v t) ∧ (valT ts k = none → valV vs k = none)
  | _, _, _, .nil => ⟨fun t h => (by cases h), fun _ => rfl⟩
  | _, _, k, .cons (k := k0) (v := v0) (t := t0) a b => by
    unfold valT valV
    by_cases e : k0 = k
    · simp only [List.find?_cons, e, decide_true]
      exact ⟨fun t h => ⟨v0, rfl, by cases h; exact a⟩, fun h => by cases h⟩
    · simp only [List.find?_cons, e, decide_false]
      exact RepK.val b
theorem RepK.keys : ∀ {vs : List (Key × V)} {ts : List (Key × T)}, RepK K F vs ts → vs.map (·.1) = ts.map (·.1)
  | _, _, .nil => rfl
  | _, _, .cons _ b => by rw [List.map_cons, List.map_cons, RepK.keys b]
theorem we_dc {wi : TI} {tg : TG} {tk tv : TE} {vs : List Nat} {bind : T → List Ent → List Ent → Prop} (G : Tgt K tg vs bind)
    (h : wI K R B wi g es fun xs g1 es1 => NoOwn vs es1 ∧ ∃ Iv : Nat → List (Key × T) → R.G → Prop, Iv 0 [] g1 ∧
      (∀ n x acc g2, xs[n]? = some x → Iv n acc g2 → ∃ eb, bind x (wipeE es1 vs) eb ∧ NoOwn vs eb ∧ wT K R B tt g2 eb fun b g3 e3 => e3 = eb ∧
        if b = true then wE K R B tk g3 eb fun k g4 e4 => e4 = eb ∧ wE K R B tv g4 eb fun y g5 e5 => e5 = eb ∧ ∃ kk, k.key = some kk ∧ acc.length < sizeLine ∧ Iv (n + 1) (putT acc kk y) g5 else Iv (n + 1) acc g3) ∧ (∀ acc g2, Iv xs.length acc g2 → post (.dct acc) g2 es1)) :
    wE K R B (tDc wi tg tt tk tv vs) g es post := fun F σ H ok Q q => by
  refine h F σ H ok _ fun J xs g1 es1 F1 H1 l1 ok1 src h1 => ?_
  obtain ⟨no, Iv, i0, ih, iN⟩ := h1
  intro D hD
  have nD : ¬ OwnA es1 σ D := fun z => (ok1.ownH z).1 hD
  refine ⟨fun n m H => m = xs.length - n ∧ n ≤ xs.length ∧ ∃ acc us g2 F2, Lc R σ g1 es1 F1 H1 g2 es1 F2 H ∧ Ok K R B g2 es1 F2 σ H ∧ Mk1 R B g2 es1 F2 σ H D (.dK us) ∧ RepK K F2 us acc ∧ Iv n acc g2, ⟨_, rfl, Nat.zero_le _, [], [], g1, F1, ?_⟩, ?_⟩
  · obtain ⟨tr, ii⟩ := Tr.lay (o := .dK []) ok1.i hD
    exact ⟨.of tr, ok1.step tr ii, ⟨upd_same, Evl.fresh_back ok1.i.ex hD, fun z => R.pn ok1.i.res z hD, none_of ok1.t.al hD, nD⟩, .nil, i0⟩
  rintro n m H' ⟨rfl, hn, acc, us, g2, F2, l2, ok2, mk, rs, iv⟩
  by_cases hlt : n < xs.length
  · refine .inr ⟨src.go g2 F2 H' ok2.i l2.f n hlt, fun H3 => ∃ acc us g3 F3, Lc R σ g1 es1 F1 H1 g3 es1 F3 H3 ∧ Ok K R B g3 es1 F3 σ H3 ∧ Mk1 R B g3 es1 F3 σ H3 D (.dK us) ∧ RepK K F3 us acc ∧ Iv (n + 1) acc g3, fun H3 ⟨acc, us, g3, F3, z⟩ => ⟨xs.length - (n + 1), by omega, rfl, hlt, acc, us, g3, F3, z⟩, fun v H3 y => ?_⟩
    obtain ⟨t, F3, ht, tr, ii, r⟩ := src.yld g2 F2 H' ok2.i l2.f n v H3 hlt y
    obtain ⟨eb, hb, nob, hs⟩ := ih n t acc g2 ht iv
    have ok3 := ok2.step tr ii
    have mk3 := mk.lc (.of (σ := σ) tr)
    have l3 : Lc R σ g1 es1 F1 H1 g2 es1 F3 H3 := l2.trans (.of tr)
    obtain ⟨σb, okb, off, offE, run⟩ := G.run R B g2 (wipeE es1 vs) eb F3 H3 (wipe σ vs) v t (ok3.wipe vs) r hb
    have offσ : Off vs σ σb := (Off.wipe vs σ).trans off
    have offe : OffE vs es1 eb := ⟨offE.1.trans (OffE.wipe es1 vs).1, fun j hj => (offE.2 j hj).trans ((OffE.wipe es1 vs).2 j hj)⟩
    refine run _ ⟨by rw [wipe_off off, wipe_off (Off.wipe vs σ)], ?_⟩
    refine hs F3 σb H3 okb _ fun b g4 e4 F4 H4 l4 ok4 h4 => ?_
    obtain ⟨rfl, h4⟩ := h4
    have l4' : Lc R σ g2 es1 F3 H3 g4 es1 F4 H4 := l4.back offσ offe nob
    cases b with
    | false => exact ⟨acc, us, g4, F4, l3.trans l4', ok3.back ok4 l4.f offσ offe no, mk3.lc l4', (rs.up tr.f).up l4.f, h4⟩
    | true =>
      refine h4 F4 σb H4 ok4 _ fun w k g5 e5 F5 H5 l5 ok5 rk h5 => ?_
      obtain ⟨rfl, h5⟩ := h5
      refine h5 F5 σb H5 ok5 _ fun w2 y g6 e6 F6 H6 l6 ok6 ry h6 => ?_
      obtain ⟨rfl, kk, hk, hl, iv6⟩ := h6
      have l5' : Lc R σ g4 es1 F4 H4 g5 es1 F5 H5 := l5.back offσ offe nob
      have l6' : Lc R σ g5 es1 F5 H5 g6 es1 F6 H6 := l6.back offσ offe nob
      have mk6 := ((mk3.lc l4').lc l5').lc l6'
      have rs6 : RepK K F6 us acc := (((rs.up tr.f).up l4.f).up l5.f).up l6.f
      have okE : Ok K R B g6 es1 F6 σ H6 := ((ok3.back ok4 l4.f offσ offe no).back ok5 l5.f offσ offe no).back ok6 l6.f offσ offe no
      refine ⟨us, kk, rk.key hk, mk6.at_, by rw [rs6.length]; exact hl, putT acc kk y, putK us kk w2, g6, F6, ?_, okE.put mk6.nf mk6.np mk6.nb mk6.no, ⟨upd_same, mk6.nf, mk6.np, mk6.nb, mk6.no⟩, rs6.put ry, iv6⟩
      have l7 := ((l3.trans l4').trans l5').trans l6'
      refine ⟨l7.f, l7.nw, fun a o z m n => ?_, fun a z => ?_, l7.pp, l7.mm, l7.ow⟩
      · rw [upd_ne (ne_of_none z hD)]
        exact l7.kp a o z m n
      · obtain ⟨u, z'⟩ := some_of z
        rw [upd_ne (ne_of_none z' hD)]
        exact l7.al a z
  · have e : n = xs.length := by omega
    subst e
    refine .inl ⟨src.stop g2 F2 H' ok2.i l2.f _ (Nat.le_refl _), ?_⟩
    have ex : Ex F2 (upd F2 D (.dK us)) := Evl.Ex.new mk.nf
    refine q _ (.dct acc) g2 es1 (upd F2 D (.dK us)) H' (l1.trans ⟨l2.f.trans ex, fun a z => ?_, l2.kp, l2.al, l2.pp, l2.mm, l2.ow⟩) (ok2.frz mk.at_ mk.nf mk.np mk.nb mk.no) (.dct upd_same (rs.up ex)) (iN _ _ iv)
    by_cases ea : a = D
    · subst ea
      exact .inr (.inl hD)
    · rw [upd_ne ea] at z
      exact l2.nw a z
end
end Zc
/-! Z5: operations, built-ins, dicts, slices by data. -/
namespace Zc
open PySem L2
section
variable {K : PySem.W.Frag} {R : Rs} {B : Bs R} {g g' : R.G} {es es' : List Ent} {F F' H H' : Hp} {σ : L2.St} {ta tb te : TE} {tt tu : TT} {post : T → R.G → List Ent → Prop} {pb : Bool → R.G → List Ent → Prop} {P : Po R} {p : T → Prop}
/-! ### numbers -/
theorem wr_int0 {f : Int → Int → Int} {a b : Int} (h : p (.int (f a b))) : wR K R (rI0 fun i j => .int (f i j)) (.int a) (.int b) p := fun g F H vx vy i rx ry Q q => by
  cases rx
  cases ry
  exact ⟨a, b, rfl, rfl, q _ _ F H .refl i (.int _) h⟩
theorem wr_bl0 {f : Int → Int → Bool} {a b : Int} (h : p (.bl (f a b))) : wR K R (rI0 fun i j => .bl (f i j)) (.int a) (.int b) p := fun g F H vx vy i rx ry Q q => by
  cases rx
  cases ry
  exact ⟨a, b, rfl, rfl, q _ _ F H .refl i (.bl _) h⟩
theorem wr_intC {C : Int → Int → Prop} {f : Int → Int → Int} {a b : Int} (c : C a b) (h : p (.int (f a b))) : wR K R (rI C fun i j => .int (f i j)) (.int a) (.int b) p := fun g F H vx vy i rx ry Q q => by
  cases rx
  cases ry
  exact ⟨a, b, rfl, rfl, c, q _ _ F H .refl i (.int _) h⟩
theorem wu_int {f : Int → Int} {a : Int} (h : p (.int (f a))) : wU K R (rU fun i => .int (f i)) (.int a) p := fun g F H vx i rx Q q => by
  cases rx
  exact ⟨a, rfl, q _ _ F H .refl i (.int _) h⟩
/-! ### plain equality -/
theorem wr_eqI {a b : Int} (h : p (.bl (decide (a = b)))) : wR K R rEq (.int a) (.int b) p := fun g F H vx vy i rx ry Q q => by
  cases rx
  cases ry
  have e : decide (V.int a = V.int b) = decide (a = b) := by simp
  refine ⟨rfl, ?_⟩
  rw [e]
  exact q _ _ F H .refl i (.bl _) h
theorem wr_eqS {a b : Str} (h : p (.bl (decide (a = b)))) : wR K R rEq (.str a) (.str b) p := fun g F H vx vy i rx ry Q q => by
  cases rx
  cases ry
  have e : decide (V.str a = V.str b) = decide (a = b) := by simp
  refine ⟨rfl, ?_⟩
  rw [e]
  exact q _ _ F H .refl i (.bl _) h
theorem wr_eqB {a b : Bool} (h : p (.bl (decide (a = b)))) : wR K R rEq (.bl a) (.bl b) p := fun g F H vx vy i rx ry Q q => by
  cases rx
  cases ry
  have e : decide (V.bl a = V.bl b) = decide (a = b) := by simp
  refine ⟨rfl, ?_⟩
  rw [e]
  exact q _ _ F H .refl i (.bl _) h
theorem wr_neI {a b : Int} (h : p (.bl (!decide (a = b)))) : wR K R rNe (.int a) (.int b) p := fun g F H vx vy i rx ry Q q => by
  cases rx
  cases ry
  have e : decide (V.int a = V.int b) = decide (a = b) := by simp
  refine ⟨rfl, ?_⟩
  rw [e]
  exact q _ _ F H .refl i (.bl _) h
theorem wr_neS {a b : Str} (h : p (.bl (!decide (a = b)))) : wR K R rNe (.str a) (.str b) p := fun g F H vx vy i rx ry Q q => by
  cases rx
  cases ry
  have e : decide (V.str a = V.str b) = decide (a = b) := by simp
  refine ⟨rfl, ?_⟩
  rw [e]
  exact q _ _ F H .refl i (.bl _) h
theorem wr_neB {a b : Bool} (h : p (.bl (!decide (a = b)))) : wR K R rNe (.bl a) (.bl b) p := fun g F H vx vy i rx ry Q q => by
  cases rx
  cases ry
  have e : decide (V.bl a = V.bl b) = decide (a = b) := by simp
  refine ⟨rfl, ?_⟩
  rw [e]
  exact q _ _ F H .refl i (.bl _) h
def T.isN : T → Bool
  | .non => true | .raw v => decide (v = .non) | _ => false
theorem Rep.isN {v : V} {t : T} (r : Rep K F v t) : decide (v = .non) = t.isN := by
  cases r <;> first | rfl | (exact decide_eq_false (fun z => by cases z))
theorem wr_isN {x : T} (h : p (.bl x.isN)) : wR K R (fun x y H Q => y = .non ∧ Q (.bl (decide (x = .non))) H) x .non p := fun g F H vx vy i rx ry Q q => by
  cases ry
  refine ⟨rfl, ?_⟩
  rw [rx.isN]
  exact q _ _ F H .refl i (.bl _) h
theorem wr_notN {x : T} (h : p (.bl (!x.isN))) : wR K R (fun x y H Q => y = .non ∧ Q (.bl (!decide (x = .non))) H) x .non p := fun g F H vx vy i rx ry Q q => by
  cases ry
  refine ⟨rfl, ?_⟩
  rw [rx.isN]
  exact q _ _ F H .refl i (.bl _) h
/-! ### subscripts -/
theorem Reps.atI {vs : List V} {ts : List T} {i : Int} {t : T} (r : Reps K F vs ts) (h : L2.atI ts i = some t) : ∃ v, L2.atI vs i = some v ∧ Rep K F v t := by
  unfold L2.atI at h ⊢
  rw [r.length]
  cases e : ixN ts.length i with
  | none =>
    rw [e] at h
    cases h
  | some j =>
    rw [e] at h
    exact r.get h
theorem wr_ixL {ts : List T} {i : Int} (h : ∃ t, L2.atI ts i = some t ∧ p t) : wR K R (rIx K) (.lst ts) (.int i) p := fun g F H vx vy ii rx ry Q q => by
  obtain ⟨t, h1, h2⟩ := h
  cases ry
  cases rx with
  | lst hs rs =>
    obtain ⟨v, e, r⟩ := rs.atI h1
    exact .inl ⟨_, _, i, v, rfl, rfl, Evl.ex_l ii.ex hs, e, q _ _ F H .refl ii r h2⟩
theorem wr_ixT {ts : List T} {i : Int} (h : ∃ t, L2.atI ts i = some t ∧ p t) : wR K R (rIx K) (.tup ts) (.int i) p := fun g F H vx vy ii rx ry Q q => by
  obtain ⟨t, h1, h2⟩ := h
  cases ry
  cases rx with
  | tup hs rs =>
    obtain ⟨v, e, r⟩ := rs.atI h1
    exact .inr (.inl ⟨_, _, i, v, rfl, rfl, Evl.ex_t ii.ex hs, e, q _ _ F H .refl ii r h2⟩)
theorem wr_ixS {z : Str} {i : Int} (h : ∃ c, z.length ≤ sizeLine ∧ L2.atI z.cps.toList i = some c ∧ p (.str ⟨#[c]⟩)) : wR K R (rIx K) (.str z) (.int i) p := fun g F H vx vy ii rx ry Q q => by
  obtain ⟨c, h0, h1, h2⟩ := h
  cases ry
  cases rx
  exact .inr (.inr ⟨z, i, c, rfl, rfl, h0, h1, q _ _ F H .refl ii (.str _) h2⟩)
/-- a[i], a a slot that is own or but read, the item kept -/
theorem we_ixOwn {i : Nat} {ts0 : List T} (e0 : es[i]? = some (.lst ts0)) (h : wE K R B tb g es fun y g1 es1 => ∃ ts n t, es1[i]? = some (.lst ts) ∧ y = .int n ∧ L2.atI ts n = some t ∧ post t g1 es1) : wE K R B (tOp (rIx K) (tVar i) tb) g es post := fun F σ H ok Q q => by
  obtain ⟨s, h1, a, vs0, rfl, _⟩ := ok.ent i _ e0
  refine ⟨_, h1, ?_⟩
  refine h F σ H ok _ fun vy y g1 es1 F1 H1 l1 ok1 ry h2 => ?_
  obtain ⟨ts, n, t, e1, rfl, ht, hp⟩ := h2
  obtain ⟨s, h3, a', vs, rfl, hH, hF, hP, hB, rs⟩ := ok1.ent i _ e1
  rw [h1] at h3
  cases h3
  cases ry
  obtain ⟨v, e, r⟩ := rs.atI ht
  exact .inl ⟨_, _, n, v, rfl, rfl, Evl.sq_of hH, e, q _ _ g1 es1 F1 H1 l1 ok1 r hp⟩
/-! ### lists and tuples joined -/
theorem wr_catT {xs ys : List T} (hx : xs ≠ []) (hy : ys ≠ []) (hl : xs.length + ys.length ≤ sizeLine) (h : p (.tup (xs ++ ys))) : wR K R (rCatT K) (.tup xs) (.tup ys) p := fun g F H vx vy ii rx ry Q q => by
  cases rx with
  | tup h1 r1 => cases ry with
    | tup h2 r2 =>
      have n1 := r1.length
      have n2 := r2.length
      refine ⟨_, _, _, _, rfl, rfl, Evl.ex_t ii.ex h1, Evl.ex_t ii.ex h2, ?_, by omega, fun z => ?_, fun _ pp hp => ?_⟩
      · intro z
        rw [z] at n1
        exact hx (List.eq_nil_of_length_eq_zero n1.symm)
      · rw [z] at n2
        exact absurd (List.eq_nil_of_length_eq_zero n2.symm) hy
      · obtain ⟨tr, i2⟩ := Tr.new (o := .tup (_ ++ _)) ii hp
        exact q _ (.tup (xs ++ ys)) _ _ tr i2 (.tup (Evl.st_of upd_same) ((r1.append r2).up tr.f)) h
/-! ### calls -/
theorem wc_abs {a : Int} (h : p (.int (if a < 0 then -a else a))) : wC K R (fun xs H Q => ∃ i, xs = [.int i] ∧ Q (.int (if i < 0 then -i else i)) H) [.int a] p := fun g F H vx ii rx Q q => by
  cases rx with
  | cons r1 r => cases r with
    | nil =>
      cases r1
      exact ⟨a, rfl, q _ _ F H .refl ii (.int _) h⟩
theorem wc_min2 {a b : Int} (h : p (.int (if b < a then b else a))) : wC K R (fun xs H Q => ∃ i j, xs = [.int i, .int j] ∧ Q (.int (if j < i then j else i)) H) [.int a, .int b] p := fun g F H vx ii rx Q q => by
  cases rx with
  | cons r1 r => cases r with
    | cons r2 r => cases r with
      | nil =>
        cases r1
        cases r2
        exact ⟨a, b, rfl, q _ _ F H .refl ii (.int _) h⟩
theorem wc_max2 {a b : Int} (h : p (.int (if b > a then b else a))) : wC K R (fun xs H Q => ∃ i j, xs = [.int i, .int j] ∧ Q (.int (if j > i then j else i)) H) [.int a, .int b] p := fun g F H vx ii rx Q q => by
  cases rx with
  | cons r1 r => cases r with
    | cons r2 r => cases r with
      | nil =>
        cases r1
        cases r2
        exact ⟨a, b, rfl, q _ _ F H .refl ii (.int _) h⟩
theorem wc_intI {a : Int} (h : p (.int a)) : wC K R (fun xs H Q => (∃ i, xs = [.int i] ∧ Q (.int i) H) ∨ ∃ k, xs = [.bl k] ∧ Q (.int (if k then 1 else 0)) H) [.int a] p := fun g F H vx ii rx Q q => by
  cases rx with
  | cons r1 r => cases r with
    | nil =>
      cases r1
      exact .inl ⟨a, rfl, q _ _ F H .refl ii (.int _) h⟩
theorem wc_intB {a : Bool} (h : p (.int (if a then 1 else 0))) : wC K R (fun xs H Q => (∃ i, xs = [.int i] ∧ Q (.int i) H) ∨ ∃ k, xs = [.bl k] ∧ Q (.int (if k then 1 else 0)) H) [.bl a] p := fun g F H vx ii rx Q q => by
  cases rx with
  | cons r1 r => cases r with
    | nil =>
      cases r1
      exact .inr ⟨a, rfl, q _ _ F H .refl ii (.int _) h⟩
theorem wc_lenL {ts : List T} (h : p (.int ts.length)) : wC K R (fun xs H Q => ∃ x n, xs = [x] ∧ LenV K x H n ∧ Q (.int n) H) [.lst ts] p := fun g F H vx ii rx Q q => by
  cases rx with
  | cons r1 r => cases r with
    | nil => cases r1 with
      | lst h1 r1 => exact ⟨_, ts.length, rfl, .inl ⟨_, Evl.ex_l ii.ex h1, r1.length.symm⟩, q _ _ F H .refl ii (.int _) h⟩
theorem wc_lenT {ts : List T} (h : p (.int ts.length)) : wC K R (fun xs H Q => ∃ x n, xs = [x] ∧ LenV K x H n ∧ Q (.int n) H) [.tup ts] p := fun g F H vx ii rx Q q => by
  cases rx with
  | cons r1 r => cases r with
    | nil => cases r1 with
      | tup h1 r1 => exact ⟨_, ts.length, rfl, .inr ⟨_, Evl.ex_t ii.ex h1, r1.length.symm⟩, q _ _ F H .refl ii (.int _) h⟩
theorem wc_lenS {z : Str} (hz : z.length ≤ sizeLine) (h : p (.int z.length)) : wC K R (fun xs H Q => ∃ x n, xs = [x] ∧ LenV K x H n ∧ Q (.int n) H) [.str z] p := fun g F H vx ii rx Q q => by
  cases rx with
  | cons r1 r => cases r with
    | nil =>
      cases r1
      exact ⟨_, z.length, rfl, ⟨hz, rfl⟩, q _ _ F H .refl ii (.int _) h⟩
theorem wc_listL {ts : List T} (h : p (.lst ts)) : wC K R (fun xs H Q => ∃ p ys, xs = [.ref p] ∧ (SqL K H p ys ∨ SqT K H p ys) ∧ ∀ l, H l = none → Q (.ref l) (upd H l (.lst ys))) [.lst ts] p := fun g F H vx ii rx Q q => by
  cases rx with
  | cons r1 r => cases r with
    | nil => cases r1 with
      | lst h1 r1 =>
        refine ⟨_, _, rfl, .inl (Evl.ex_l ii.ex h1), fun l hl => ?_⟩
        obtain ⟨tr, i2⟩ := Tr.new (o := .lst _) ii hl
        exact q _ (.lst ts) _ _ tr i2 (.lst (Evl.sq_of upd_same) (r1.up tr.f)) h
theorem wc_listT {ts : List T} (h : p (.lst ts)) : wC K R (fun xs H Q => ∃ p ys, xs = [.ref p] ∧ (SqL K H p ys ∨ SqT K H p ys) ∧ ∀ l, H l = none → Q (.ref l) (upd H l (.lst ys))) [.tup ts] p := fun g F H vx ii rx Q q => by
  cases rx with
  | cons r1 r => cases r with
    | nil => cases r1 with
      | tup h1 r1 =>
        refine ⟨_, _, rfl, .inr (Evl.ex_t ii.ex h1), fun l hl => ?_⟩
        obtain ⟨tr, i2⟩ := Tr.new (o := .lst _) ii hl
        exact q _ (.lst ts) _ _ tr i2 (.lst (Evl.sq_of upd_same) (r1.up tr.f)) h
def keyT : Key → T
  | .inl i => .int i | .inr x => .str x
theorem RepK.keyReps (F' : Hp) : ∀ {vs : List (Key × V)} {ts : List (Key × T)}, RepK K F vs ts → Reps K F' (vs.map fun kv => kV kv.1) (ts.map fun kv => keyT kv.1)
  | _, _, .nil => .nil
  | _, _, .cons (k := k) _ b => by
    refine .cons ?_ (RepK.keyReps F' b)
    cases k with
    | inl i => exact .int i
    | inr x => exact .str x
theorem wc_listD {ts : List (Key × T)} (h : p (.lst (ts.map fun kv => keyT kv.1))) : wC K R (fun xs H Q => ∃ (a : Addr) (kvs : List (Key × V)), xs = [.ref a] ∧ Rd H a (.dK kvs) ∧ ∀ p, H p = none → Q (.ref p) (upd H p (.lst (kvs.map fun kv => kV kv.1)))) [.dct ts] p := fun g F H vx ii rx Q q => by
  cases rx with
  | cons r1 r => cases r with
    | nil => cases r1 with
      | dct h1 r1 =>
        refine ⟨_, _, rfl, .inl (ii.ex _ _ h1), fun l hl => ?_⟩
        obtain ⟨tr, i2⟩ := Tr.new (o := .lst _) ii hl
        exact q _ _ _ _ tr i2 (.lst (Evl.sq_of upd_same) (r1.keyReps _)) h
theorem wc_sortI {ns : List Int} (h : ∀ ns' : List Int, ns'.Perm ns → ns'.Pairwise (· ≤ ·) → p (.lst (ns'.map .int))) : wC K R (rSortedI K) [.lst (ns.map .int)] p := fun g F H vx ii rx Q q => by
  cases rx with
  | cons r1 r => cases r with
    | nil => cases r1 with
      | lst h1 r1 =>
        cases r1.ints
        refine ⟨_, ns, rfl, Evl.ex_l ii.ex h1, fun ns' l e1 e2 hl => ?_⟩
        obtain ⟨tr, i2⟩ := Tr.new (o := .lst (ns'.map V.int)) ii hl
        exact q _ (.lst (ns'.map .int)) _ _ tr i2 (.lst (Evl.sq_of upd_same) (.of_ints _ _)) (h ns' e1 e2)
theorem wc_all {ns : List Bool} (h : p (.bl (ns.all id))) : wC K R (rAll K) [.lst (ns.map .bl)] p := fun g F H vx ii rx Q q => by
  cases rx with
  | cons r1 r => cases r with
    | nil => cases r1 with
      | lst h1 r1 =>
        cases r1.bls
        exact ⟨_, ns, rfl, Evl.ex_l ii.ex h1, q _ _ F H .refl ii (.bl _) h⟩
theorem wc_any {ns : List Bool} (h : p (.bl (ns.any id))) : wC K R (rAny K) [.lst (ns.map .bl)] p := fun g F H vx ii rx Q q => by
  cases rx with
  | cons r1 r => cases r with
    | nil => cases r1 with
      | lst h1 r1 =>
        cases r1.bls
        exact ⟨_, ns, rfl, Evl.ex_l ii.ex h1, q _ _ F H .refl ii (.bl _) h⟩
theorem wc_sum {ns : List Int} (h : p (.int ns.sum)) : wC K R (rSum K) [.lst (ns.map .int)] p := fun g F H vx ii rx Q q => by
  cases rx with
  | cons r1 r => cases r with
    | nil => cases r1 with
      | lst h1 r1 =>
        cases r1.ints
        exact ⟨_, ns, rfl, Evl.ex_l ii.ex h1, q _ _ F H .refl ii (.int _) h⟩
/-! ### isinstance -/
def T.typ : T → Option String
  | .non => some "NoneType" | .bl _ => some "bool" | .int _ => some "int" | .str _ => some "str" | .lst _ => some "list" | .tup _ => some "tuple" | .dct _ => some "dict" | .raw _ => none
theorem Rep.typ {v : V} {t : T} {n : String} (r : Rep K F v t) (h : t.typ = some n) (e : Ex F H) : TyX K H v (.type n) := by
  cases r with
  | non => cases h; exact .base .non
  | bl b => cases h; exact .base (.bl b)
  | int b => cases h; exact .base (.int b)
  | str b => cases h; exact .base (.str b)
  | lst h1 _ =>
    cases h
    rcases h1 with (h1 | ⟨o, h1⟩) | ⟨o, its, n, q1, q2, _⟩
    · exact .base (.lst (e _ _ h1))
    · exact .base (.frz (e _ _ h1))
    · exact .kList q1 q2
  | tup h1 _ =>
    cases h
    rcases h1 with (h1 | ⟨o, h1⟩) | ⟨o, its, n, q1, q2, _⟩
    · exact .base (.tup (e _ _ h1))
    · exact .fTuple (e _ _ h1)
    · exact .kTuple q1 q2
  | dct h1 _ =>
    cases h
    exact .base (.dK (e _ _ h1))
  | raw _ => cases h
theorem we_isi {n : String} (h : wE K R B te g es fun x g1 es1 => ∃ t b, x.typ = some t ∧ kitB t n = some b ∧ post (.bl b) g1 es1) : wE K R B (tCB (rIsi K) (tCons te (tCons (tC (.ty n)) tNil))) g es post := fun F σ H ok Q q => by
  refine h F σ H ok _ fun vx x g1 es1 F1 H1 l1 ok1 rx h1 => ?_
  obtain ⟨t, b, e1, e2, h1⟩ := h1
  exact ⟨vx, .ty n, .type t, .type n, b, rfl, .ty n, rx.typ e1 ok1.i.ex, kit_ty e2, q _ _ g1 es1 F1 H1 l1 ok1 (.bl b) h1⟩
theorem we_isiT {n m : String} (h : wE K R B te g es fun x g1 es1 => ∃ t b1 b2, x.typ = some t ∧ kitB t n = some b1 ∧ kitB t m = some b2 ∧ post (.bl (b1 || b2)) g1 es1) : wE K R B (tCB (rIsiT K) (tCons te (tCons (tTup (tCons (tC (.ty n)) (tCons (tC (.ty m)) tNil))) tNil))) g es post := fun F σ H ok Q q => by
  refine h F σ H ok _ fun vx x g1 es1 F1 H1 l1 ok1 rx h1 => ?_
  obtain ⟨t, b1, b2, e1, e2, e3, h1⟩ := h1
  refine ⟨by show 2 ≤ sizeLine; decide, fun tp htp => ?_⟩
  obtain ⟨tr, i2⟩ := Tr.new (o := .tup [.ty n, .ty m]) ok1.i htp
  refine ⟨vx, tp, [.ty n, .ty m], .type t, [.type n, .type m], b1 || b2, rfl, upd_same, .cons (.ty n) (.cons (.ty m) .nil), (rx.up tr.f).typ e1 i2.ex, ?_, q _ _ g1 es1 _ _ (l1.trans (.of tr)) (ok1.step tr i2) (.bl _) h1⟩
  refine kitAny_cons (kit_ty e2) (fun z => ?_) (fun z => by rw [z]; rfl)
  rw [z]
  exact kitAny_cons (kit_ty e3) (fun z2 => by rw [z2]; rfl) (fun z2 => by rw [z2]; rfl)
/-! ### dicts -/
theorem we_dget (h : wE K R B ta g es fun x g1 es1 => wE K R B tb g1 es1 fun y g2 es2 => ∃ kvs k t, x = .dct kvs ∧ y.key = some k ∧ valT kvs k = some t ∧ post t g2 es2) : wE K R B (tDGet ta tb) g es post := fun F σ H ok Q q => by
  refine h F σ H ok _ fun vx x g1 es1 F1 H1 l1 ok1 rx h1 => ?_
  refine h1 F1 σ H1 ok1 _ fun vy y g2 es2 F2 H2 l2 ok2 ry h2 => ?_
  obtain ⟨kvs, k, t, rfl, e1, e2, hp⟩ := h2
  cases rx with
  | dct h3 r3 =>
    obtain ⟨v, e3, r⟩ := (RepK.val r3).1 t e2
    refine ⟨_, v, rfl, .inl ⟨_, k, .inl (ok2.i.ex _ _ (l2.f _ _ h3)), ry.key e1, e3.symm⟩, q _ _ g2 es2 F2 H2 (l1.trans l2) ok2 (r.up l2.f) hp⟩
theorem we_dgetOwn {i : Nat} {ts0 : List (Key × T)} (e0 : es[i]? = some (.dk ts0)) (h : wE K R B tb g es fun y g1 es1 => ∃ kvs k t, es1[i]? = some (.dk kvs) ∧ y.key = some k ∧ valT kvs k = some t ∧ post t g1 es1) : wE K R B (tDGet (tVar i) tb) g es post := fun F σ H ok Q q => by
  obtain ⟨s, h1, a, vs0, rfl, _⟩ := ok.ent i _ e0
  refine ⟨_, h1, ?_⟩
  refine h F σ H ok _ fun vy y g1 es1 F1 H1 l1 ok1 ry h2 => ?_
  obtain ⟨kvs, k, t, e1, ek, ht, hp⟩ := h2
  obtain ⟨s, h3, a', vs, rfl, hH, hF, hP, hB, rs⟩ := ok1.ent i _ e1
  rw [h1] at h3
  cases h3
  obtain ⟨v, e3, r⟩ := (RepK.val rs).1 t ht
  exact ⟨_, v, rfl, .inl ⟨_, k, .inl hH, ry.key ek, e3.symm⟩, q _ _ g1 es1 F1 H1 l1 ok1 r hp⟩
theorem RepK.isSome {vs : List (Key × V)} {ts : List (Key × T)} {k : Key} (r : RepK K F vs ts) : (valV vs k).isSome = (valT ts k).isSome := by
  cases e : valT ts k with
  | none => rw [(RepK.val r).2 e] <;> rfl
  | some t =>
    obtain ⟨v, e1, _⟩ := (RepK.val r).1 t e
    rw [e1] <;> rfl
theorem we_din (h : wE K R B tb g es fun y g1 es1 => wE K R B ta g1 es1 fun x g2 es2 => ∃ kvs k, x = .dct kvs ∧ y.key = some k ∧ post (.bl (valT kvs k).isSome) g2 es2) : wE K R B (tDIn tb ta) g es post := fun F σ H ok Q q => by
  refine h F σ H ok _ fun vx x g1 es1 F1 H1 l1 ok1 rx h1 => ?_
  refine h1 F1 σ H1 ok1 _ fun vy y g2 es2 F2 H2 l2 ok2 ry h2 => ?_
  obtain ⟨kvs, k, rfl, e1, hp⟩ := h2
  cases ry with
  | dct h3 r3 =>
    refine ⟨_, _, rfl, .inl ⟨_, k, .inl (ok2.i.ex _ _ h3), rx.key e1, rfl⟩, ?_⟩
    rw [r3.isSome]
    exact q _ _ g2 es2 F2 H2 (l1.trans l2) ok2 (.bl _) hp
theorem we_dnotin (h : wE K R B tb g es fun y g1 es1 => wE K R B ta g1 es1 fun x g2 es2 => ∃ kvs k, x = .dct kvs ∧ y.key = some k ∧ post (.bl (!(valT kvs k).isSome)) g2 es2) : wE K R B (tDNotIn tb ta) g es post := fun F σ H ok Q q => by
  refine h F σ H ok _ fun vx x g1 es1 F1 H1 l1 ok1 rx h1 => ?_
  refine h1 F1 σ H1 ok1 _ fun vy y g2 es2 F2 H2 l2 ok2 ry h2 => ?_
  obtain ⟨kvs, k, rfl, e1, hp⟩ := h2
  cases ry with
  | dct h3 r3 =>
    refine ⟨_, _, rfl, .inl ⟨_, k, .inl (ok2.i.ex _ _ h3), rx.key e1, rfl⟩, ?_⟩
    rw [r3.isSome]
    exact q _ _ g2 es2 F2 H2 (l1.trans l2) ok2 (.bl _) hp
/-- x[k] = v, x an own dict -/
theorem ws_dput {i : Nat} {tv ty : TE} {ts0 : List (Key × T)} (h : wE K R B tv g es fun v g1 es1 => (∃ ts0, es1[i]? = some (.dk ts0)) ∧ wE K R B ty g1 es1 fun y g2 es2 => ∃ kvs k, es2[i]? = some (.dk kvs) ∧ y.key = some k ∧ kvs.length < sizeLine ∧ P.nx g2 (es2.set i (.dk (putT kvs k v)))) :
    wS K R B (sDPut (tVar i) ty tv) g es P := fun F σ H ok D d => by
  refine h F σ H ok _ fun vx x g1 es1 F1 H1 l1 ok1 rx h1 => ?_
  obtain ⟨⟨ts1, e1⟩, h1⟩ := h1
  obtain ⟨s, z1, a, vs1, rfl, _⟩ := ok1.ent i _ e1
  refine ⟨_, z1, ?_⟩
  refine h1 F1 σ H1 ok1 _ fun vy y g2 es2 F2 H2 l2 ok2 ry h2 => ?_
  obtain ⟨kvs, k, e2, ek, hl, hp⟩ := h2
  obtain ⟨s, h3, a', vs, rfl, hH, hF, hP, hB, rs⟩ := ok2.ent i _ e2
  rw [z1] at h3
  cases h3
  have ow : OwnA es2 σ a := ⟨i, _, e2, rfl, z1⟩
  refine ⟨a, _, rfl, .inl ⟨vs, k, hH, ry.key ek, by rw [rs.length]; exact hl, rfl⟩, ?_⟩
  exact d.nx _ _ _ _ _ (l1.f.trans l2.f) (ok2.chg (o := .dK (putK vs k vx)) (e := .dk (putT kvs k x)) ow z1 ⟨_, e2, rfl⟩ ⟨a, _, rfl, upd_same, hF, hP, hB, rs.put (rx.up l2.f)⟩) hp
end
end Zc
/-! Z6: equality of data at depth; defs by name; automation. -/
namespace Zc
open PySem L2
mutual
def T.py : T → PyData
  | .non => .none | .bl b => .bool b | .int i => .int i | .str x => .str x | .lst xs => .list (pys xs) | .tup xs => .tuple (pys xs) | .dct _ => .none | .raw _ => .none
def pys : List T → List PyData
  | [] => []
  | t :: ts => t.py :: pys ts
end
mutual
/-- plain data: no dict, no raw value, texts that fit -/
def T.ok : T → Bool
  | .non => true | .bl _ => true | .int _ => true | .str x => PyData.canLay0 (.str x) | .lst xs => oks xs | .tup xs => oks xs | .dct _ => false | .raw _ => false
def oks : List T → Bool
  | [] => true
  | t :: ts => t.ok && oks ts
end
mutual
def T.dep : T → Nat
  | .lst xs => deps xs + 1 | .tup xs => deps xs + 1 | _ => 0
def deps : List T → Nat
  | [] => 0
  | t :: ts => max t.dep (deps ts)
end
section
variable {K : PySem.W.Frag} {F F' H : Hp}
mutual
theorem T.canLay : ∀ t : T, t.ok = true → t.py.canLay0 = true
  | .non, _ => rfl
  | .bl _, _ => rfl
  | .int _, _ => rfl
  | .str _, h => h
  | .lst xs, h => pys_canLay xs h
  | .tup xs, h => pys_canLay xs h
  | .dct _, h => by cases h
  | .raw _, h => by cases h
theorem pys_canLay : ∀ ts : List T, oks ts = true → PyData.canLayAll0 (pys ts) = true
  | [], _ => rfl
  | t :: ts, h => by
    have h' : (t.ok && oks ts) = true := h
    rw [Bool.and_eq_true] at h'
    show (t.py.canLay0 && PyData.canLayAll0 (pys ts)) = true
    rw [T.canLay t h'.1, pys_canLay ts h'.2] <;> rfl
end
mutual
theorem T.depth_py : ∀ t : T, t.py.depth ≤ t.dep
  | .non => Nat.zero_le _
  | .bl _ => Nat.zero_le _
  | .int _ => Nat.zero_le _
  | .str _ => Nat.zero_le _
  | .lst xs => Nat.succ_le_succ (pys_depth xs)
  | .tup xs => Nat.succ_le_succ (pys_depth xs)
  | .dct _ => Nat.zero_le _
  | .raw _ => Nat.zero_le _
theorem pys_depth : ∀ ts : List T, PyData.depthAll (pys ts) ≤ deps ts
  | [] => Nat.zero_le _
  | t :: ts => by
    show max t.py.depth (PyData.depthAll (pys ts)) ≤ max t.dep (deps ts)
    have h1 := T.depth_py t
    have h2 := pys_depth ts
    omega
end
theorem T.shaped {t : T} (h : t.ok = true) (d : t.dep ≤ 64) : SeqAt.shaped t.py = true := by
  unfold SeqAt.shaped
  rw [T.canLay t h, Bool.true_and]
  exact decide_eq_true (Nat.le_trans (T.depth_py t) d)
mutual
theorem Rep.dp (e : Ex F H) : ∀ (t : T) (v : V), t.ok = true → Rep K F v t → Dp K H v t.py
  | .non, _, _, .non => .non
  | .bl _, _, _, .bl b => .bl b
  | .int _, _, _, .int b => .int b
  | .str _, _, _, .str b => .str b
  | .lst ts, _, h, .lst (xs := xs) a b => .lst (Evl.ex_l e a) (Reps.dp e ts xs h b)
  | .tup ts, _, h, .tup (xs := xs) a b => .tup (Evl.ex_t e a) (Reps.dp e ts xs h b)
  | .dct _, _, h, _ => by cases h
  | .raw _, _, h, _ => by cases h
theorem Reps.dp (e : Ex F H) : ∀ (ts : List T) (vs : List V), oks ts = true → Reps K F vs ts → DpAll K H vs (pys ts)
  | [], _, _, .nil => .nil
  | t :: ts, _, h, .cons (v := v) (vs := vs) a b => by
    have h' : (t.ok && oks ts) = true := h
    rw [Bool.and_eq_true] at h'
    exact .cons (Rep.dp e t v h'.1 a) (Reps.dp e ts vs h'.2 b)
end
variable {R : Rs} {p : T → Prop}
theorem wr_eqD {x y : T} (hx : x.ok = true) (dx : x.dep ≤ 64) (hy : y.ok = true) (dy : y.dep ≤ 64) (h : p (.bl (PyData.eqv x.py y.py))) : wR K R (rEqD K) x y p := fun g F H vx vy i rx ry Q q =>
  ⟨x.py, y.py, Rep.dp i.ex x vx hx rx, Rep.dp i.ex y vy hy ry, T.shaped hx dx, T.shaped hy dy, q _ _ F H .refl i (.bl _) h⟩
theorem wr_neD {x y : T} (hx : x.ok = true) (dx : x.dep ≤ 64) (hy : y.ok = true) (dy : y.dep ≤ 64) (h : p (.bl (!PyData.eqv x.py y.py))) : wR K R (rNeD K) x y p := fun g F H vx vy i rx ry Q q =>
  ⟨x.py, y.py, Rep.dp i.ex x vx hx rx, Rep.dp i.ex y vy hy ry, T.shaped hx dx, T.shaped hy dy, q _ _ F H .refl i (.bl _) h⟩
theorem eqv_nil (xs : List T) : PyData.eqv (T.lst xs).py (T.lst []).py = xs.isEmpty := by cases xs <;> rfl
/-- x in (a, b, ..) of numbers and texts -/
theorem inV_int (k : Int) : ∀ ns : List Int, inV (.int k) (ns.map V.int) = decide (k ∈ ns)
  | [] => rfl
  | n :: ns => by
    show (eqV (.int n) (.int k) || inV (.int k) (ns.map V.int)) = _
    rw [inV_int k ns]
    have e : eqV (.int n) (.int k) = decide (k = n) := by
      show (n == k) = _
      by_cases h : k = n
      · subst h; simp
      · have : ¬ n = k := fun z => h z.symm
        simp [h, this]
    rw [e]
    by_cases h : k = n <;> simp [h]
theorem inV_str (k : Str) : ∀ ns : List Str, inV (.str k) (ns.map V.str) = decide (k ∈ ns)
  | [] => rfl
  | n :: ns => by
    show (eqV (.str n) (.str k) || inV (.str k) (ns.map V.str)) = _
    rw [inV_str k ns]
    have e : eqV (.str n) (.str k) = decide (k = n) := by
      show decide (n = k) = _
      by_cases h : k = n
      · subst h; simp
      · have : ¬ n = k := fun z => h z.symm
        simp [h, this]
    rw [e]
    by_cases h : k = n <;> simp [h]
theorem flat_ints : ∀ ns : List Int, (ns.map V.int).all flatV = true
  | [] => rfl
  | _ :: ns => flat_ints ns
theorem flat_strs : ∀ ns : List Str, (ns.map V.str).all flatV = true
  | [] => rfl
  | _ :: ns => flat_strs ns
theorem wr_inIL {k : Int} {ns : List Int} (h : p (.bl (decide (k ∈ ns)))) : wR K R (rIn K false) (.int k) (.lst (ns.map .int)) p := fun g F H vx vy i rx ry Q q => by
  cases rx
  cases ry with
  | lst h1 r1 =>
    cases r1.ints
    refine ⟨_, _, rfl, .inl (Evl.ex_l i.ex h1), rfl, flat_ints ns, ?_⟩
    show Q (.bl (inV (.int k) (ns.map V.int))) H
    rw [inV_int]
    exact q _ _ F H .refl i (.bl _) h
theorem wr_niIL {k : Int} {ns : List Int} (h : p (.bl (!decide (k ∈ ns)))) : wR K R (rIn K true) (.int k) (.lst (ns.map .int)) p := fun g F H vx vy i rx ry Q q => by
  cases rx
  cases ry with
  | lst h1 r1 =>
    cases r1.ints
    refine ⟨_, _, rfl, .inl (Evl.ex_l i.ex h1), rfl, flat_ints ns, ?_⟩
    show Q (.bl (!inV (.int k) (ns.map V.int))) H
    rw [inV_int]
    exact q _ _ F H .refl i (.bl _) h
theorem wr_inST {k : Str} {ns : List Str} (h : p (.bl (decide (k ∈ ns)))) : wR K R (rIn K false) (.str k) (.tup (ns.map .str)) p := fun g F H vx vy i rx ry Q q => by
  cases rx
  cases ry with
  | tup h1 r1 =>
    cases r1.strs'
    refine ⟨_, _, rfl, .inr (Evl.ex_t i.ex h1), rfl, flat_strs ns, ?_⟩
    show Q (.bl (inV (.str k) (ns.map V.str))) H
    rw [inV_str]
    exact q _ _ F H .refl i (.bl _) h
theorem wr_inS2 {k a b : Str} (h : p (.bl (decide (k ∈ [a, b])))) : wR K R (rIn K false) (.str k) (.tup [.str a, .str b]) p := wr_inST (ns := [a, b]) h
end
/-- a def that is called by its name -/
structure Cal (P : Program) (w : World) (K : PySem.W.Frag) (mg : Str → Option Value) (base : Heap) (k : Nat) (x : Str) (ps : List Str) (sp : Sp) : Prop where
  ex : ∃ f fd, FnOk P w K mg base CX0 k f fd ps sp ∧ mg x = some (.ref f) ∧ PySem.W.keepIn K (.ref f) = true ∧ Binds K fd ps []
theorem pe_cal {X : Cx} {k j : Nat} {ps : List Str} {sp : Sp} {x : Str} {p pos : Pos} {e : Expr} {es : List Expr} {t : TA} (C : Cal X.prog X.w X.K X.mg X.base k x ps sp) (hr : Room j X.A) (hj : k ≤ j) (hg : Gl X x)
    (ha : PA X (e :: es) t) (hd : (x == ("__debug__" : Str)) = false := by decide) (hs : starEach (e :: es) X.env = (false, eval e X.env) :: starEach es X.env := by rfl)
    (hpl : (backTo pos (starEach es X.env)).any (·.1) = false := by rfl) : PE X (.Call (.Name x p) (e :: es) [] pos) (tCall sp [] E0 t) := by
  obtain ⟨f, fd, F, m, kp, b⟩ := C.ex
  exact pe_call F (hr.mono hj) hg m kp b .nil pass0 ha hd hs hpl
theorem Cal.up {P : Program} {w : World} {K : PySem.W.Frag} {mg : Str → Option Value} {base : Heap} {k j : Nat} {x : Str} {ps : List Str} {sp : Sp} (C : Cal P w K mg base k x ps sp) (h : k ≤ j) : Cal P w K mg base j x ps sp := by
  obtain ⟨f, fd, F, m⟩ := C.ex
  exact ⟨f, fd, F.mono h, m⟩
/-! ### the entry of a def -/
section
variable {K : PySem.W.Frag} {R : Rs}
def paramE : List Bool → List T → List Ent
  | m :: ms, t :: ts => (if m = true then .bor t else .dat t) :: paramE ms ts
  | _, _ => []
theorem ArgsOk.len {g : R.G} {F H : Hp} : ∀ {ms : List Bool} {vs : List V} {ts : List T}, ArgsOk K R g F H ms vs ts → vs.length = ts.length ∧ ms.length = ts.length
  | _, _, _, .nil => ⟨rfl, rfl⟩
  | _, _, _, .dat _ h => ⟨congrArg Nat.succ h.len.1, congrArg Nat.succ h.len.2⟩
  | _, _, _, .bor _ h => ⟨congrArg Nat.succ h.len.1, congrArg Nat.succ h.len.2⟩
theorem paramE_len : ∀ {ms : List Bool} {ts : List T}, ms.length = ts.length → (paramE ms ts).length = ts.length
  | [], [], _ => rfl
  | _ :: ms, _ :: ts, h => congrArg Nat.succ (paramE_len (Nat.succ.inj h))
  | [], _ :: _, h => by cases h
  | _ :: _, [], h => by cases h
theorem ArgsOk.ent {g : R.G} {F H : Hp} : ∀ {ms : List Bool} {vs : List V} {ts : List T}, ArgsOk K R g F H ms vs ts → ∀ (i : Nat) e, (paramE ms ts)[i]? = some e → ∃ v, vs[i]? = some v ∧ EntOk K R ⟨g, F, H⟩ g F H (some v) e ∧ e.own = false
  | _, _, _, .nil, i, e, h => by cases h
  | _, _, _, .dat r _, 0, e, h => by
    cases h
    exact ⟨_, rfl, ⟨_, rfl, r⟩, rfl⟩
  | _, _, _, .bor r _, 0, e, h => by
    cases h
    exact ⟨_, rfl, ⟨_, rfl, r⟩, rfl⟩
  | _, _, _, .dat _ b, i + 1, e, h => b.ent i e h
  | _, _, _, .bor _ b, i + 1, e, h => b.ent i e h
theorem enter {ms : List Bool} {pre : DSp R} {N : List Str} {vs : List V} {H : Hp} {Q : VK} {E : XK} {t : TS} (h : spD K R ms pre vs H Q E)
    (hl : ∀ ts g post, pre ts g post → ts.length ≤ N.length)
    (hb : ∀ B ts g (post : T → R.G → Prop), pre ts g post → wS K R B t g (paramE ms ts ++ List.replicate (N.length - ts.length) .any) { nx := fun g' _ => post .non g', rt := post }) :
    t { nx := fun _ H' => Q .non H', rt := Q } (L2.start N vs) H := by
  obtain ⟨F, ts, g, post, i, a, hp, hq⟩ := h
  obtain ⟨l1, l2⟩ := a.len
  have l3 := paramE_len l2
  have ll := hl ts g post hp
  refine hb ⟨g, F, H⟩ ts g post hp F (L2.start N vs) H ⟨i, .refl, ?_, fun j e q => ?_, fun j k e e' b n q1 q2 q3 q4 q5 q6 => ?_⟩ _ ⟨fun g' es' F' σ' H' _ ok q => ?_, fun v t g' F' H' _ i tr r q => ?_, fun _ _ _ _ _ _ _ q => q.elim, fun _ _ _ _ _ _ _ q => q.elim⟩
  · unfold L2.start
    simp [l1, l3]
  · rcases Nat.lt_or_ge j ts.length with hj | hj
    · rw [List.getElem?_append_left (by rw [l3]; exact hj)] at q
      obtain ⟨v, h1, h2, _⟩ := a.ent j e q
      refine ⟨some v, ?_, h2⟩
      unfold L2.start
      rw [List.getElem?_append_left (by rw [List.length_map, l1]; exact hj), List.getElem?_map, h1] <;> rfl
    · rw [List.getElem?_append_right (by rw [l3]; exact hj)] at q
      have e1 : e = .any := (List.mem_replicate.mp (List.mem_of_getElem? q)).2
      subst e1
      have hj2 : j - (paramE ms ts).length < N.length - ts.length := by
        have := (List.getElem?_eq_some_iff.mp q).1
        rw [List.length_replicate] at this
        exact this
      rw [l3] at hj2
      refine ⟨none, ?_, trivial⟩
      unfold L2.start
      rw [List.getElem?_append_right (by rw [List.length_map, l1]; exact hj), List.length_map, l1]
      rw [List.getElem?_replicate, if_pos hj2]
  · have no : ∀ (j : Nat) e, (paramE ms ts ++ List.replicate (N.length - ts.length) Ent.any)[j]? = some e → e.own = false := fun j e q => by
      rcases Nat.lt_or_ge j ts.length with hj | hj
      · rw [List.getElem?_append_left (by rw [l3]; exact hj)] at q
        obtain ⟨v, h1, h2, h3⟩ := a.ent j e q
        exact h3
      · rw [List.getElem?_append_right (by rw [l3]; exact hj)] at q
        have e1 : e = .any := (List.mem_replicate.mp (List.mem_of_getElem? q)).2
        subst e1
        rfl
    rw [no j e q1] at q3
    cases q3
  · exact hq .non .non g' F' H' ok.t ok.i .non q
  · exact hq v t g' F' H' tr i r q
theorem spD_len {ms : List Bool} {pre : DSp R} {n : Nat} (h : ∀ ts g post, pre ts g post → ts.length = n) : ∀ vs H Q E, spD K R ms pre vs H Q E → vs.length = n := fun vs H Q E ⟨F, ts, g, post, i, a, hp, _⟩ => a.len.1.trans (h ts g post hp)
end
end Zc
/-! Z7: statements with their four ends apart; a dict comprehension given to a name; the built-ins' names. -/
namespace Zc
open PySem L2
def wQ (K : PySem.W.Frag) (R : Rs) (B : Bs R) (ts : TS) (g : R.G) (es : List Ent) (nx : R.G → List Ent → Prop) (rt : T → R.G → Prop) (bk ct : R.G → List Ent → Prop) : Prop := wS K R B ts g es ⟨nx, rt, bk, ct⟩
section
variable {K : PySem.W.Frag} {R : Rs} {B : Bs R} {g g' : R.G} {es es' : List Ent} {ta tb te : TE} {tt tu : TT} {nx bk ct : R.G → List Ent → Prop} {rt : T → R.G → Prop} {post : T → R.G → List Ent → Prop}
theorem wq_seq {t u : TS} (h : wQ K R B t g es (fun g1 es1 => wQ K R B u g1 es1 nx rt bk ct) rt bk ct) : wQ K R B (tSeq t u) g es nx rt bk ct := ws_seq (P := ⟨nx, rt, bk, ct⟩) h
theorem wq_next (h : nx g es) : wQ K R B tNext g es nx rt bk ct := ws_next (P := ⟨nx, rt, bk, ct⟩) h
theorem wq_break (h : bk g es) : wQ K R B tBreak g es nx rt bk ct := ws_break (P := ⟨nx, rt, bk, ct⟩) h
theorem wq_cont (h : ct g es) : wQ K R B tCont g es nx rt bk ct := ws_cont (P := ⟨nx, rt, bk, ct⟩) h
theorem wq_if {t u : TS} (h : wT K R B tt g es fun b g1 es1 => if b = true then wQ K R B t g1 es1 nx rt bk ct else wQ K R B u g1 es1 nx rt bk ct) : wQ K R B (tIfS tt t u) g es nx rt bk ct := ws_if (P := ⟨nx, rt, bk, ct⟩) h
theorem wq_ret (h : wE K R B te g es fun t g' _ => rt t g') : wQ K R B (tRet te) g es nx rt bk ct := ws_ret (P := ⟨nx, rt, bk, ct⟩) h
theorem wq_retN (h : rt .non g) : wQ K R B tRetN g es nx rt bk ct := ws_retN (P := ⟨nx, rt, bk, ct⟩) h
theorem wq_drop (h : wE K R B te g es fun _ g' es' => nx g' es') : wQ K R B (tDrop te) g es nx rt bk ct := ws_drop (P := ⟨nx, rt, bk, ct⟩) h
theorem wq_set {i : Nat} (h : wE K R B te g es fun t g' es' => nx g' (es'.set i (.dat t))) : wQ K R B (tAsg te (gName i)) g es nx rt bk ct := ws_set (P := ⟨nx, rt, bk, ct⟩) h
theorem wq_setT {i j : Nat} (h : wE K R B te g es fun t g' es' => ∃ x y, t = .tup [x, y] ∧ nx g' ((es'.set i (.dat x)).set j (.dat y))) : wQ K R B (tAsg te (gTup K 2 (gCons (gName i) (gCons (gName j) gNil)))) g es nx rt bk ct := ws_setT (P := ⟨nx, rt, bk, ct⟩) h
theorem wq_setL {i : Nat} {t : TA} (h : wA K R B t g es fun ts g' es' => ts.length ≤ sizeLine ∧ nx g' (es'.set i (.lst ts))) : wQ K R B (tAsg (tLst t) (gName i)) g es nx rt bk ct := ws_setL (P := ⟨nx, rt, bk, ct⟩) h
theorem wq_setD {i : Nat} (h : nx g (es.set i (.dk []))) : wQ K R B (tAsg tDNewK (gName i)) g es nx rt bk ct := ws_setD (P := ⟨nx, rt, bk, ct⟩) h
theorem wq_dput {i : Nat} {tv ty : TE} (h : wE K R B tv g es fun v g1 es1 => (∃ ts0, es1[i]? = some (.dk ts0)) ∧ wE K R B ty g1 es1 fun y g2 es2 => ∃ kvs k, es2[i]? = some (.dk kvs) ∧ y.key = some k ∧ kvs.length < sizeLine ∧ nx g2 (es2.set i (.dk (putT kvs k v)))) :
    wQ K R B (sDPut (tVar i) ty tv) g es nx rt bk ct := ws_dput (P := ⟨nx, rt, bk, ct⟩) (ts0 := []) h
theorem wq_for {wi : TI} {tg : TG} {tb : TS} {vs : List Nat} {bind : T → List Ent → List Ent → Prop} (G : Tgt K tg vs bind)
    (h : wI K R B wi g es fun xs g1 es1 => ∃ Iv : Nat → R.G → List Ent → Prop, Iv 0 g1 es1 ∧
      (∀ n x g2 es2, xs[n]? = some x → Iv n g2 es2 → ∃ eb, bind x es2 eb ∧ wQ K R B tb g2 eb (Iv (n + 1)) rt nx (Iv (n + 1))) ∧ (∀ g2 es2, Iv xs.length g2 es2 → nx g2 es2)) :
    wQ K R B (tFor wi tg tb) g es nx rt bk ct := ws_for (P := ⟨nx, rt, bk, ct⟩) G h
theorem wq_while {tb : TS} (Iv : Nat → R.G → List Ent → Prop) (h0 : ∃ m, Iv m g es)
    (h : ∀ m g2 es2, Iv m g2 es2 → wT K R B tt g2 es2 fun b g3 es3 => if b = true then wQ K R B tb g3 es3 (fun g4 es4 => ∃ m', m' < m ∧ Iv m' g4 es4) rt nx (fun g4 es4 => ∃ m', m' < m ∧ Iv m' g4 es4) else nx g3 es3) :
    wQ K R B (tWhile tt tb) g es nx rt bk ct := ws_while (P := ⟨nx, rt, bk, ct⟩) Iv h0 h
theorem wq_par {i j : Nat} {t : TA} (h : wA K R B t g es fun ts g' es' => ∃ x y, ts = [x, y] ∧ nx g' ((es'.set i (.dat x)).set j (.dat y))) : wQ K R B (tPar i j t) g es nx rt bk ct := fun F σ H ok D d => by
  refine h F σ H ok _ fun vs ts g1 es1 F1 H1 l1 ok1 rs h1 => ?_
  obtain ⟨x, y, rfl, h1⟩ := h1
  cases rs with
  | cons r1 rs => cases rs with
    | cons r2 rs => cases rs with
      | nil => exact ⟨_, _, rfl, d.nx _ _ _ _ _ l1.f ((ok1.set r1).set r2) h1⟩
theorem we_notT (h : wE K R B te g es fun x g1 es1 => ∃ c, x.tru = some c ∧ post (.bl (!c)) g1 es1) : wE K R B (tNotT K te) g es post := fun F σ H ok Q q => by
  refine h F σ H ok _ fun vx x g1 es1 F1 H1 l1 ok1 rx h1 => ?_
  obtain ⟨c, e, h1⟩ := h1
  exact ⟨c, rx.tru ok1.i.ex e, q _ _ g1 es1 F1 H1 l1 ok1 (.bl _) h1⟩
theorem we_andT (h : wE K R B ta g es fun x g1 es1 => ∃ c, x.tru = some c ∧ if c = true then wE K R B tb g1 es1 post else post x g1 es1) : wE K R B (tAndT K ta tb) g es post := fun F σ H ok Q q => by
  refine h F σ H ok _ fun vx x g1 es1 F1 H1 l1 ok1 rx h1 => ?_
  obtain ⟨c, e, h1⟩ := h1
  refine ⟨c, rx.tru ok1.i.ex e, ?_⟩
  cases c with
  | true => exact h1 F1 σ H1 ok1 Q fun v t g2 es2 F2 H2 l2 => q v t g2 es2 F2 H2 (l1.trans l2)
  | false => exact q _ _ g1 es1 F1 H1 l1 ok1 rx h1
theorem we_orT (h : wE K R B ta g es fun x g1 es1 => ∃ c, x.tru = some c ∧ if c = true then post x g1 es1 else wE K R B tb g1 es1 post) : wE K R B (tOrT K ta tb) g es post := fun F σ H ok Q q => by
  refine h F σ H ok _ fun vx x g1 es1 F1 H1 l1 ok1 rx h1 => ?_
  obtain ⟨c, e, h1⟩ := h1
  refine ⟨c, rx.tru ok1.i.ex e, ?_⟩
  cases c with
  | false => exact h1 F1 σ H1 ok1 Q fun v t g2 es2 F2 H2 l2 => q v t g2 es2 F2 H2 (l1.trans l2)
  | true => exact q _ _ g1 es1 F1 H1 l1 ok1 rx h1
theorem wq_enter {ms : List Bool} {pre : DSp R} {N : List Str} {vs : List V} {H : Hp} {Q : VK} {E : XK} {t : TS} (h : spD K R ms pre vs H Q E)
    (hl : ∀ ts g post, pre ts g post → ts.length ≤ N.length)
    (hb : ∀ B ts g (post : T → R.G → Prop), pre ts g post → wQ K R B t g (paramE ms ts ++ List.replicate (N.length - ts.length) .any) (fun g' _ => post .non g') post (fun _ _ => False) (fun _ _ => False)) :
    t { nx := fun _ H' => Q .non H', rt := Q } (L2.start N vs) H := enter h hl hb
/-- a[i], f(a), a but read -/
theorem we_ixBor {i : Nat} {t : T} {r : R2} (e : es[i]? = some (.bor t)) (h : ∀ B1, wE K R B1 (tOp r (tVar i) tb) g (es.map Ent.thaw) fun t g' es' => t.sc = true ∧ es' = es.map Ent.thaw ∧ post t g' es) : wE K R B (tOp r (tVar i) tb) g es post := we_bor h
theorem we_cbBor {i : Nat} {t : T} {r : List V → Hp → VK → Prop} (e : es[i]? = some (.bor t)) (h : ∀ B1, wE K R B1 (tCB r (tCons (tVar i) tNil)) g (es.map Ent.thaw) fun t g' es' => t.sc = true ∧ es' = es.map Ent.thaw ∧ post t g' es) : wE K R B (tCB r (tCons (tVar i) tNil)) g es post := we_bor h
theorem we_cbOwn {i : Nat} {t : List T} {r : List V → Hp → VK → Prop} (e : es[i]? = some (.lst t)) (h : ∀ B1, wE K R B1 (tCB r (tCons (tVar i) tNil)) g (es.map Ent.thaw) fun t g' es' => t.sc = true ∧ es' = es.map Ent.thaw ∧ post t g' es) : wE K R B (tCB r (tCons (tVar i) tNil)) g es post := we_bor h
theorem wt_truBor {i : Nat} {t : T} {pb : Bool → R.G → List Ent → Prop} (e : es[i]? = some (.bor t)) (h : ∀ B1, wT K R B1 (fun σ H Q => tVar i σ H fun x H' => ∃ k, TruV K x H' k ∧ Q k H') g (es.map Ent.thaw) fun b g' es' => es' = es.map Ent.thaw ∧ pb b g' es) :
    wT K R B (fun σ H Q => tVar i σ H fun x H' => ∃ k, TruV K x H' k ∧ Q k H') g es pb := wt_bor h
theorem noOwn1 {i : Nat} {e : Ent} (h : es[i]? = some e) (ho : e.own = false) : NoOwn [i] es := fun j e' hj he => by
  cases (List.mem_singleton.mp hj)
  rw [h] at he
  cases he
  exact ho
/-- [e for x in xs]: each item has p -/
theorem we_lcAll {i : Nat} {wi : TI} (p : T → Prop) (h : wI K R B wi g es fun xs g1 es1 => xs.length ≤ 100000 ∧ NoOwn [i] es1 ∧ (∀ x ∈ xs, wE K R B te g1 (es1.set i (.dat x)) fun y g3 e3 => g3 = g1 ∧ e3 = es1.set i (.dat x) ∧ p y) ∧
    ∀ ys, ys.length = xs.length → (∀ y ∈ ys, p y) → post (.lst ys) g1 es1) : wE K R B (tLc wi (gName i) tYes te [i]) g es post := by
  refine we_lc (tgt_name i [i] (List.mem_singleton.mpr rfl)) fun F σ H ok Q q => h F σ H ok Q fun J xs g1 es1 F1 H1 l o s hh => q J xs g1 es1 F1 H1 l o s ?_
  obtain ⟨hl, no, he, hp⟩ := hh
  refine ⟨no, fun n acc g2 => g2 = g1 ∧ acc.length = n ∧ ∀ y ∈ acc, p y, ⟨rfl, rfl, fun y hy => by cases hy⟩, fun n x acc g2 hx hacc => ?_, fun acc g2 hacc => by
    obtain ⟨rfl, h1, h2⟩ := hacc
    exact hp acc h1 h2⟩
  obtain ⟨rfl, hacc⟩ := hacc
  have hn : n < xs.length := (List.getElem?_eq_some_iff.mp hx).1
  refine ⟨es1.set i (.dat x), ?_, ?_, wt_yes ⟨rfl, ?_⟩⟩
  · show es1.set i (.dat x) = (es1.set i .any).set i (.dat x)
    rw [List.set_set]
  · intro j e hj hje
    cases (List.mem_singleton.mp hj)
    rcases set_get hje with ⟨_, rfl, _⟩ | ⟨ne, _⟩
    · rfl
    · exact absurd rfl ne
  · show wE K R B te _ (es1.set i (.dat x)) _
    refine we_mono (he x (List.mem_of_getElem? hx)) fun y g3 e3 hy => ⟨hy.2.1, ?_, hy.1, ?_, ?_⟩
    · rw [hacc.1]
      exact Nat.lt_of_lt_of_le hn (Nat.le_trans hl (by decide))
    · rw [List.length_append, hacc.1] <;> rfl
    · intro z hz
      rcases List.mem_append.mp hz with hz | hz
      · exact hacc.2 z hz
      · cases (List.mem_singleton.mp hz)
        exact hy.2.2
/-- [f x for x in xs if c x], what is shared stays -/
theorem we_lcFM {i : Nat} {wi : TI} (c : T → Bool) (f : T → T) (h : wI K R B wi g es fun xs g1 es1 => xs.length ≤ 100000 ∧ NoOwn [i] es1 ∧ (∀ x ∈ xs, wT K R B tt g1 (es1.set i (.dat x)) fun b g2 e2 => g2 = g1 ∧ e2 = es1.set i (.dat x) ∧ b = c x ∧
    (b = true → wE K R B te g1 (es1.set i (.dat x)) fun y g3 e3 => g3 = g1 ∧ e3 = es1.set i (.dat x) ∧ y = f x)) ∧ post (.lst ((xs.filter c).map f)) g1 es1) : wE K R B (tLc wi (gName i) tt te [i]) g es post := by
  refine we_lc (tgt_name i [i] (List.mem_singleton.mpr rfl)) fun F σ H ok Q q => h F σ H ok Q fun J xs g1 es1 F1 H1 l o s hh => q J xs g1 es1 F1 H1 l o s ?_
  obtain ⟨hl, no, he, hp⟩ := hh
  refine ⟨no, fun n acc g2 => g2 = g1 ∧ acc = (((xs.take n).filter c).map f), ⟨rfl, rfl⟩, fun n x acc g2 hx hacc => ?_, fun acc g2 hacc => ?_⟩
  · obtain ⟨rfl, rfl⟩ := hacc
    have hn : n < xs.length := (List.getElem?_eq_some_iff.mp hx).1
    have e1 : xs.take (n + 1) = xs.take n ++ [x] := by rw [List.take_add_one, hx] <;> rfl
    refine ⟨es1.set i (.dat x), ?_, ?_, ?_⟩
    · show es1.set i (.dat x) = (es1.set i .any).set i (.dat x)
      rw [List.set_set]
    · intro j e hj hje
      cases (List.mem_singleton.mp hj)
      rcases set_get hje with ⟨_, rfl, _⟩ | ⟨ne, _⟩
      · rfl
      · exact absurd rfl ne
    · refine fun F σ H ok Q q => he x (List.mem_of_getElem? hx) F σ H ok Q fun b g2 e2 F2 H2 l2 o2 hb => q b g2 e2 F2 H2 l2 o2 ?_
      obtain ⟨rfl, rfl, rfl, hb⟩ := hb
      refine ⟨rfl, ?_⟩
      cases hc : c x with
      | false =>
        refine ⟨rfl, ?_⟩
        rw [e1, List.filter_append]
        simp [hc]
      | true =>
        show wE K R B te _ _ _
        refine we_mono (hb hc) fun y g3 e3 hy => ?_
        obtain ⟨rfl, rfl, rfl⟩ := hy
        refine ⟨rfl, ?_, rfl, ?_⟩
        · have : ((xs.take n).filter c).length ≤ (xs.take n).length := List.length_filter_le ..
          rw [List.length_map]
          have h2 : (xs.take n).length ≤ xs.length := by simp; omega
          exact Nat.lt_of_le_of_lt this (Nat.lt_of_le_of_lt h2 (Nat.lt_of_le_of_lt hl (by decide)))
        · rw [e1, List.filter_append]
          simp [hc]
  · obtain ⟨rfl, rfl⟩ := hacc
    rw [List.take_length]
    exact hp
/-- a choice by a truth value -/
theorem w_ite {b : Bool} {A C : Prop} (h1 : b = true → A) (h2 : b = false → C) : if b = true then A else C := by
  cases b with
  | true => exact h1 rfl
  | false => exact h2 rfl
theorem w_iteD {c : Prop} [Decidable c] {A C : Prop} (h1 : c → A) (h2 : ¬ c → C) : if decide c = true then A else C := by
  by_cases h : c
  · rw [decide_eq_true h, if_pos rfl]
    exact h1 h
  · rw [decide_eq_false h, if_neg Bool.false_ne_true]
    exact h2 h
theorem w_iteN {c : Prop} [Decidable c] {A C : Prop} (h1 : ¬ c → A) (h2 : c → C) : if (!decide c) = true then A else C := by
  by_cases h : c
  · rw [decide_eq_true h]
    exact h2 h
  · rw [decide_eq_false h]
    exact h1 h
theorem w_iteP {c : Prop} [Decidable c] {A C : Prop} (hc : c) (h : A) : if decide c = true then A else C := by
  rw [decide_eq_true hc]
  exact h
theorem w_iteM {c : Prop} [Decidable c] {A C : Prop} (hc : ¬ c) (h : C) : if decide c = true then A else C := by
  rw [decide_eq_false hc]
  exact h
theorem w_iteT {A C : Prop} (h1 : A) : if true = true then A else C := h1
theorem w_iteF {A C : Prop} (h1 : C) : if false = true then A else C := h1
end
/-! ### {k: v for ..} given to a name -/
theorem sw_trueD {k v : Expr} {gs : List Comprehension} {scope : Scope} {pos py : Pos} {y : Str} {l : Nat} {env : Env} (hk : env.scope.kind = .function) (hy : env.scope.names.lookup y = some .local)
    (hl : (py.line == pos.line) = true) (ha : (scope.names.any fun (n, k) => n == y && (k == .local || k == .cell)) = false) :
    swapsWith (.DictComp k v gs scope pos) (some (.Name y py)) l env = pure true := by
  have e1 : env.kindOf y = some .local := hy
  have e2 : env.blockKind = .function := by
    unfold Env.blockKind
    rw [hk] <;> rfl
  unfold swapsWith
  simp only [e1, e2, ha, Expr.pos, hl]
  rfl
section
variable {X : Cx}
theorem ps_setDc {i : Nat} {y : Str} {py : Pos} {kx vx tg iter : Expr} {ifs : List Expr} {scope : Scope} {own : List (Str × Nat)} {pos spos : Pos} {wi : TI} {gt : TG} {tt : TT} {tk tv : TE} (c : X.calm = true) (nd : X.N.Nodup)
    (hy : X.N[i]? = some y) (loc : X.env.scope.names.lookup y = some .local) (sw : swapsWith (.DictComp kx vx [⟨tg, iter, ifs, 0⟩] scope pos) (some (.Name y py)) spos.line X.env = pure true)
    (pi : PI X tg iter wi) (bo : BlkOk X.N X.env.scope scope own) (pg : ∀ s H C cl fp, PG (X.blk s H scope (compEnvC scope cl C X.env) fp) tg gt) (pt : ∀ s H C cl fp, PTs (X.blk s H scope (compEnvC scope cl C X.env) fp) ifs tt)
    (pk : ∀ s H C cl fp, PE (X.blk s H scope (compEnvC scope cl C X.env) fp) kx tk) (pv : ∀ s H C cl fp, PE (X.blk s H scope (compEnvC scope cl C X.env) fp) vx tv) (fs : ∀ x, foldedSetIterable iter X.env x = pure x := by intro _; rfl) :
    PS X (.Assign [.Name y py] (.DictComp kx vx [⟨tg, iter, ifs, 0⟩] scope pos) spos) (tAsg (tDc wi gt tt tk tv (own.map (·.2))) (gName i)) := by
  refine ⟨fun pins s σ H D inv q => ?_⟩
  rw [exec_Assign_Name_used _ _ _ _ sw]
  refine wpAny_bind (wpAny_standAt (wpAny_bind ?_))
  change wpAny _ X.A (do let _ ← comprehension (.DictComp kx vx [⟨tg, iter, ifs, 0⟩] scope pos) scope X.env (firstIterPos [⟨tg, iter, ifs, 0⟩] pos) newDict false (eval iter X.env) (some (assign (.Name y py) X.env))) _ _ s
  refine wpAny_bind (thn (dc_core (Qf := fun _ s' => SP X pins D .next s') c nd inv pi bo pg pt pk pv fs (show tDc wi gt tt tk tv (own.map (·.2)) σ H (fun x H1 => gName i x σ H1 D.nx) from q) fun L C s1 m H1 i1 q1 nsC fpC => ?_) fun _ s1 z => wpAny_pure (wpAny_pure z))
  change wpAny _ _ (assign (.Name y py) X.env (.ref L)) _ _ _
  refine wpAny_assign_Name (store_ok2 (v := V.ref L) i1 nd hy (.inl loc) rfl (fun s2 i2 ⟨a, sb, at_⟩ => ?_) (.inr loc))
  obtain ⟨w0, w1, w2, w3, w4, w5⟩ := fpC
  refine ⟨m, nsC.sameBut sb ?_, fun h3 sb3 => ⟨_, H1, i2.turned (t' := s2.toks) (fun b o hb e => (sb3.2 b hb).trans e) w0 w1 w3 w4 w5, q1⟩⟩
  rcases at_ with z | z
  · exact z ▸ w1
  · exact fun e => w4 y a z e.symm
end
/-! ### the built-ins that are not hidden by the module -/
structure Bls (mg : Str → Option Value) : Prop where
  len : mg "len" = none
  abs : mg "abs" = none
  min : mg "min" = none
  max : mg "max" = none
  int : mg "int" = none
  list : mg "list" = none
  tuple : mg "tuple" = none
  str : mg "str" = none
  bool : mg "bool" = none
  set : mg "set" = none
  sorted : mg "sorted" = none
  all : mg "all" = none
  any : mg "any" = none
  sum : mg "sum" = none
  range : mg "range" = none
  isinstance : mg "isinstance" = none
  enumerate : mg "enumerate" = none
  zip : mg "zip" = none
  reversed : mg "reversed" = none
  repr : mg "repr" = none
theorem bt_len : bootBuiltins "len" = some (.builtin "len") := PySem.boot_len
theorem bt_abs : bootBuiltins "abs" = some (.builtin "abs") := by decide +kernel
theorem bt_min : bootBuiltins "min" = some (.builtin "min") := by decide +kernel
theorem bt_max : bootBuiltins "max" = some (.builtin "max") := by decide +kernel
theorem bt_int : bootBuiltins "int" = some (.type "int") := by decide +kernel
theorem bt_list : bootBuiltins "list" = some (.type "list") := by decide +kernel
theorem bt_tuple : bootBuiltins "tuple" = some (.type "tuple") := by decide +kernel
theorem bt_str : bootBuiltins "str" = some (.type "str") := by decide +kernel
theorem bt_bool : bootBuiltins "bool" = some (.type "bool") := by decide +kernel
theorem bt_set : bootBuiltins "set" = some (.type "set") := by decide +kernel
theorem bt_sorted : bootBuiltins "sorted" = some (.builtin "sorted") := by decide +kernel
theorem bt_all : bootBuiltins "all" = some (.builtin "all") := by decide +kernel
theorem bt_any : bootBuiltins "any" = some (.builtin "any") := by decide +kernel
theorem bt_sum : bootBuiltins "sum" = some (.builtin "sum") := by decide +kernel
theorem bt_isinstance : bootBuiltins "isinstance" = some (.builtin "isinstance") := by decide +kernel
theorem bt_repr : bootBuiltins "repr" = some (.builtin "repr") := by decide +kernel
end Zc
/-! Zd: the drawn script: a list at an address that all share. -/
namespace Zc
open PySem L2
/-- the draw's list at a: the script's numbers, a place, what is left of a number, the last one -/
structure HasDraw (R : Rs) (a : Addr) : Prop where
  get : ∀ g H, R.Res g H → ∃ (s : Addr) (ns : List Int) (i c d : Int), H a = some (.lst [.ref s, .int i, .int c, .int d]) ∧ H s = some (.lst (ns.map V.int)) ∧ a ≠ s ∧ 0 ≤ i
  set : ∀ g H (s : Addr) (i c d i' c' d' : Int), R.Res g H → H a = some (.lst [.ref s, .int i, .int c, .int d]) → 0 ≤ i' → R.Res g (upd H a (.lst [.ref s, .int i', .int c', .int d']))
  m : ∀ g, R.M g a
/-- the draw alone -/
def drawAt (a s : Addr) (ns : List Int) (H : Hp) : Prop := ∃ i c d : Int, H a = some (.lst [.ref s, .int i, .int c, .int d]) ∧ H s = some (.lst (ns.map V.int)) ∧ a ≠ s ∧ 0 ≤ i
def Rdraw (a s : Addr) (ns : List Int) : Rs where
  G := Unit
  Res := fun _ H => drawAt a s ns H
  P := fun _ x => x = a ∨ x = s
  M := fun _ x => x = a
  mp := fun h => .inl h
  pn := fun {g H b} r h => by
    obtain ⟨i, c, d, h1, h2, _⟩ := r
    rcases h with rfl | rfl
    · exact ne_none h1
    · exact ne_none h2
  put := fun {g H b o} r h => by
    obtain ⟨i, c, d, h1, h2, h3⟩ := r
    refine ⟨i, c, d, ?_, ?_, h3⟩
    · rw [upd_ne (fun e => h (.inl e.symm))]
      exact h1
    · rw [upd_ne (fun e => h (.inr e.symm))]
      exact h2
theorem Rdraw.has (a s : Addr) (ns : List Int) : HasDraw (Rdraw a s ns) a := by
  refine ⟨fun g H r => ?_, fun g H t i c d i' c' d' r h hi => ?_, fun g => rfl⟩
  · obtain ⟨i, c, d, h⟩ := r
    exact ⟨s, ns, i, c, d, h⟩
  · obtain ⟨i0, c0, d0, h1, h2, h3, h4⟩ := r
    rw [h1] at h
    cases h
    refine ⟨i', c', d', upd_same, ?_, h3, hi⟩
    rw [upd_ne (Ne.symm h3)]
    exact h2
/-- what _law_next promises -/
def p_next (R : Rs) (a : Addr) : DSp R := fun ts g post => ∃ m : Int, ts = [.raw (.ref a), .int m] ∧ (0 < m ∧ m < 1073741824) ∧ ∀ r : Int, 0 ≤ r → r < m → post (.int r) g
/-! ### readings of the draw's places -/
section
variable {K : PySem.W.Frag} {σ : L2.St} {H : Hp} {a : Addr} {xs : List V} {k : Int} {v : V} {Q : VK} {te : TE} {D : Ends}
theorem rd_ix (h0 : σ[0]? = some (some (.ref a))) (hH : H a = some (.lst xs)) (hk : atI xs k = some v) (q : Q v H) : tOp (rIx K) (tVar 0) (tC (.int k)) σ H Q :=
  ⟨_, h0, .inl ⟨a, xs, k, v, rfl, rfl, Evl.sq_of hH, hk, q⟩⟩
theorem rd_set {v0 : V} {j : Nat} (h0 : σ[0]? = some (some (.ref a))) (h : te σ H fun x H1 => x = v ∧ H1 = H) (hm : ∀ Q : VK, te σ H (fun x H1 => x = v ∧ H1 = H) → (Q v H → te σ H Q)) (hH : H a = some (.lst xs)) (hj : ixN xs.length k = some j) (q : D.nx σ (upd H a (.lst (xs.set j v)))) :
    tAsg te (gSub (tVar 0) (tC (.int k)) rSetL) D σ H :=
  hm _ h ⟨_, h0, a, xs, k, j, rfl, rfl, hH, hj, q⟩
end
end Zc
namespace Zc
open PySem L2
/-- a def of the module, as the top has left it -/
structure Dfn (K : PySem.W.Frag) (mg : Str → Option Value) (x : Str) (st : Stmt) : Prop where
  ex : ∃ f fd, FunD K x x (defArgs st) (defBody st) (defScope st) [] [] f fd ∧ mg x = some (.ref f)
end Zc
/-! Bd: ordered diagrams of conditions in plain Lean: what a node says, equal ones are the same one. -/
namespace Zc
structure Nd where
  e : Int
  w : Nat
  t : Nat
deriving DecidableEq
/-- the node of a number; none for never (0) and always (1) -/
def node (ns : List Nd) (i : Nat) : Option Nd := if i < 2 then none else ns[i - 2]?
def den (ns : List Nd) (i : Nat) (σ : Int → Bool) : Bool :=
  match i with
  | 0 => false
  | 1 => true
  | i + 2 => match ns[i]? with
    | none => false
    | some n => if h : n.w < i + 2 ∧ n.t < i + 2 then (if σ n.e then den ns n.t σ else den ns n.w σ) else false
termination_by i
decreasing_by
  · exact h.2
  · exact h.1
structure Good (ns : List Nd) : Prop where
  lt : ∀ (i : Nat) (n : Nd), ns[i]? = some n → n.w < i + 2 ∧ n.t < i + 2
  ne : ∀ (i : Nat) (n : Nd), ns[i]? = some n → n.w ≠ n.t
  ordw : ∀ (i : Nat) (n m : Nd), ns[i]? = some n → node ns n.w = some m → n.e < m.e
  ordt : ∀ (i : Nat) (n m : Nd), ns[i]? = some n → node ns n.t = some m → n.e < m.e
  nd : ns.Nodup
theorem node_lt {ns : List Nd} {i : Nat} {n : Nd} (h : node ns i = some n) : 2 ≤ i ∧ i < ns.length + 2 ∧ ns[i - 2]? = some n := by
  unfold node at h
  split at h
  · cases h
  · have := (List.getElem?_eq_some_iff.mp h).1
    exact ⟨by omega, by omega, h⟩
theorem node_some {ns : List Nd} {i : Nat} (h1 : 2 ≤ i) (h2 : i < ns.length + 2) : ∃ n, node ns i = some n := by
  unfold node
  rw [if_neg (by omega)]
  exact ⟨ns[i - 2], List.getElem?_eq_getElem (by omega)⟩
theorem node_of {ns : List Nd} {i : Nat} {n : Nd} (h : ns[i]? = some n) : node ns (i + 2) = some n := by
  unfold node
  rw [if_neg (by omega)]
  exact h
theorem den_0 {ns : List Nd} {σ : Int → Bool} : den ns 0 σ = false := by rw [den]
theorem den_1 {ns : List Nd} {σ : Int → Bool} : den ns 1 σ = true := by rw [den]
theorem Good.kids {ns : List Nd} (g : Good ns) {i : Nat} {n : Nd} (h : node ns i = some n) : n.w < i ∧ n.t < i ∧ n.w ≠ n.t ∧ (∀ m, node ns n.w = some m → n.e < m.e) ∧ ∀ m, node ns n.t = some m → n.e < m.e := by
  obtain ⟨h1, h2, h3⟩ := node_lt h
  obtain ⟨l1, l2⟩ := g.lt _ _ h3
  exact ⟨by omega, by omega, g.ne _ _ h3, fun m hm => g.ordw _ _ _ h3 hm, fun m hm => g.ordt _ _ _ h3 hm⟩
theorem den_node {ns : List Nd} (g : Good ns) {i : Nat} {n : Nd} (h : node ns i = some n) {σ : Int → Bool} : den ns i σ = if σ n.e then den ns n.t σ else den ns n.w σ := by
  obtain ⟨h1, h2, h3⟩ := node_lt h
  obtain ⟨l1, l2⟩ := g.lt _ _ h3
  obtain ⟨j, rfl⟩ : ∃ j, i = j + 2 := ⟨i - 2, by omega⟩
  rw [Nat.add_sub_cancel] at h3
  rw [den, h3]
  simp only
  rw [dif_pos ⟨by omega, by omega⟩]
/-- by strong induction over the numbers -/
theorem nd_ind {ns : List Nd} (g : Good ns) {p : Nat → Prop} (h0 : p 0) (h1 : p 1) (hn : ∀ i n, node ns i = some n → p n.w → p n.t → p i) : ∀ i, i < ns.length + 2 → p i := by
  intro i
  induction i using Nat.strongRecOn with
  | _ i ih =>
    intro hi
    rcases Nat.lt_or_ge i 2 with h | h
    · rcases (show i = 0 ∨ i = 1 by omega) with rfl | rfl
      · exact h0
      · exact h1
    · obtain ⟨n, hn'⟩ := node_some h hi
      obtain ⟨k1, k2, _⟩ := g.kids hn'
      exact hn i n hn' (ih _ k1 (by omega)) (ih _ k2 (by omega))
theorem Good.left {ns ms : List Nd} (g : Good (ns ++ ms)) : Good ns := by
  have gl : ∀ (i : Nat) (n : Nd), ns[i]? = some n → (ns ++ ms)[i]? = some n := fun i n h => by
    rw [List.getElem?_append_left (List.getElem?_eq_some_iff.mp h).1]
    exact h
  have gn : ∀ i n, node ns i = some n → node (ns ++ ms) i = some n := fun i n h => by
    obtain ⟨h1, h2, h3⟩ := node_lt h
    unfold node
    rw [if_neg (by omega)]
    exact gl _ _ h3
  exact ⟨fun i n h => g.lt i n (gl i n h), fun i n h => g.ne i n (gl i n h), fun i n m h q => g.ordw i n m (gl i n h) (gn _ _ q), fun i n m h q => g.ordt i n m (gl i n h) (gn _ _ q), (List.nodup_append.mp g.nd).1⟩
theorem node_app {ns ms : List Nd} {i : Nat} (h : i < ns.length + 2) : node (ns ++ ms) i = node ns i := by
  unfold node
  split
  · rfl
  · rw [List.getElem?_append_left (by omega)]
theorem den_app {ns ms : List Nd} (g : Good (ns ++ ms)) {σ : Int → Bool} : ∀ i, i < ns.length + 2 → den (ns ++ ms) i σ = den ns i σ :=
  nd_ind g.left (by rw [den_0, den_0]) (by rw [den_1, den_1]) fun i n h h1 h2 => by
    have hi := (node_lt h).2.1
    rw [den_node g.left h, den_node g ((node_app hi).trans h), h1, h2]
/-- a number depends on what stands at its node's entry or behind alone -/
theorem den_top {ns : List Nd} (g : Good ns) {σ τ : Int → Bool} {x : Int} (hs : ∀ y, x ≤ y → σ y = τ y) : ∀ i, i < ns.length + 2 → (∀ m, node ns i = some m → x ≤ m.e) → den ns i σ = den ns i τ :=
  nd_ind g (fun _ => by rw [den_0, den_0]) (fun _ => by rw [den_1, den_1]) fun i n h h1 h2 hm => by
    have hx := hm n h
    obtain ⟨_, _, _, k3, k4⟩ := g.kids h
    rw [den_node g h, den_node g h, hs _ hx, h1 fun m q => Int.le_of_lt (Int.lt_of_le_of_lt hx (k3 m q)), h2 fun m q => Int.le_of_lt (Int.lt_of_le_of_lt hx (k4 m q))]
def put (σ : Int → Bool) (x : Int) (b : Bool) : Int → Bool := fun y => if y = x then b else σ y
theorem put_same {σ : Int → Bool} {x : Int} {b : Bool} : put σ x b x = b := if_pos rfl
theorem put_ne {σ : Int → Bool} {x y : Int} {b : Bool} (h : y ≠ x) : put σ x b y = σ y := if_neg h
/-- what stands behind an entry does not see it -/
theorem den_put {ns : List Nd} (g : Good ns) {σ : Int → Bool} {x : Int} {b : Bool} {i : Nat} (hi : i < ns.length + 2) (hm : ∀ m, node ns i = some m → x < m.e) : den ns i (put σ x b) = den ns i σ :=
  den_top g (x := x + 1) (fun y hy => put_ne (by omega)) i hi fun m h => by have := hm m h; omega
theorem den_w {ns : List Nd} (g : Good ns) {i : Nat} {n : Nd} (h : node ns i = some n) (σ : Int → Bool) : den ns i (put σ n.e false) = den ns n.w σ := by
  obtain ⟨h1, h2, h3⟩ := node_lt h
  obtain ⟨k1, k2, _, k3, k4⟩ := g.kids h
  rw [den_node g h, put_same, if_neg (by decide), den_put g (by omega) k3]
theorem den_t {ns : List Nd} (g : Good ns) {i : Nat} {n : Nd} (h : node ns i = some n) (σ : Int → Bool) : den ns i (put σ n.e true) = den ns n.t σ := by
  obtain ⟨h1, h2, h3⟩ := node_lt h
  obtain ⟨k1, k2, _, k3, k4⟩ := g.kids h
  rw [den_node g h, put_same, if_pos rfl, den_put g (by omega) k4]
/-- equal conditions have the same number -/
theorem canon {ns : List Nd} (g : Good ns) : ∀ N i j, i < N → j < N → i < ns.length + 2 → j < ns.length + 2 → (∀ σ, den ns i σ = den ns j σ) → i = j := by
  intro N
  induction N with
  | zero => intro i j h; omega
  | succ N ih =>
    intro i j hi hj li lj e
    -- a node against what does not see its entry
    have one : ∀ i j n, node ns i = some n → i < N + 1 → i < ns.length + 2 → (∀ σ b, den ns j (put σ n.e b) = den ns j σ) → (∀ σ, den ns i σ = den ns j σ) → False := by
      intro i j n h hi li nj e
      obtain ⟨k1, k2, k5, k3, k4⟩ := g.kids h
      refine k5 (ih n.w n.t (by omega) (by omega) (by omega) (by omega) fun σ => ?_)
      rw [← den_w g h σ, ← den_t g h σ, e, e, nj, nj]
    cases hn : node ns i with
    | none =>
      have i2 : i < 2 := Nat.lt_of_not_le fun c => by
        obtain ⟨n, q⟩ := node_some c li
        rw [hn] at q
        cases q
      cases hm : node ns j with
      | none =>
        have j2 : j < 2 := Nat.lt_of_not_le fun c => by
          obtain ⟨n, q⟩ := node_some c lj
          rw [hm] at q
          cases q
        have e0 := e fun _ => false
        rcases (show i = 0 ∨ i = 1 by omega) with rfl | rfl <;> rcases (show j = 0 ∨ j = 1 by omega) with rfl | rfl
        · rfl
        · rw [den_0, den_1] at e0
          cases e0
        · rw [den_0, den_1] at e0
          cases e0
        · rfl
      | some m =>
        refine (one j i m hm hj lj (fun σ b => ?_) fun σ => (e σ).symm).elim
        rcases (show i = 0 ∨ i = 1 by omega) with rfl | rfl
        · rw [den_0, den_0]
        · rw [den_1, den_1]
    | some n =>
      cases hm : node ns j with
      | none =>
        have j2 : j < 2 := Nat.lt_of_not_le fun c => by
          obtain ⟨n, q⟩ := node_some c lj
          rw [hm] at q
          cases q
        refine (one i j n hn hi li (fun σ b => ?_) e).elim
        rcases (show j = 0 ∨ j = 1 by omega) with rfl | rfl
        · rw [den_0, den_0]
        · rw [den_1, den_1]
      | some m =>
        rcases Int.lt_trichotomy n.e m.e with l | l | l
        · refine (one i j n hn hi li (fun σ b => den_put g lj fun m' q => ?_) e).elim
          rw [hm] at q
          cases q
          exact l
        · obtain ⟨a1, a2, _, _, _⟩ := g.kids hn
          obtain ⟨b1, b2, _, _, _⟩ := g.kids hm
          have ew := ih n.w m.w (by omega) (by omega) (by omega) (by omega) fun σ => by rw [← den_w g hn σ, ← den_w g hm σ, e, l]
          have et := ih n.t m.t (by omega) (by omega) (by omega) (by omega) fun σ => by rw [← den_t g hn σ, ← den_t g hm σ, e, l]
          have nm : n = m := by
            cases n
            cases m
            simp_all
          subst nm
          obtain ⟨c1, c2, c3⟩ := node_lt hn
          obtain ⟨d1, d2, d3⟩ := node_lt hm
          have := ((List.getElem?_inj (show i - 2 < ns.length by omega) g.nd).mp (c3.trans d3.symm) : i - 2 = j - 2)
          omega
        · refine (one j i m hm hj lj (fun σ b => den_put g li fun m' q => ?_) fun σ => (e σ).symm).elim
          rw [hn] at q
          cases q
          exact l
theorem canon_eq {ns : List Nd} (g : Good ns) {i j : Nat} (hi : i < ns.length + 2) (hj : j < ns.length + 2) (e : ∀ σ, den ns i σ = den ns j σ) : i = j := canon g (ns.length + 2) i j hi hj hi hj e
/-- one more node -/
theorem Good.snoc {ns : List Nd} (g : Good ns) {n : Nd} (h1 : n.w < ns.length + 2) (h2 : n.t < ns.length + 2) (h3 : n.w ≠ n.t) (h4 : ∀ m, node ns n.w = some m → n.e < m.e) (h5 : ∀ m, node ns n.t = some m → n.e < m.e) (h6 : n ∉ ns) : Good (ns ++ [n]) := by
  have cs : ∀ i m, (ns ++ [n])[i]? = some m → (ns[i]? = some m) ∨ (i = ns.length ∧ m = n) := fun i m h => by
    by_cases hi : i < ns.length
    · rw [List.getElem?_append_left hi] at h
      exact .inl h
    · have hl : i < (ns ++ [n]).length := (List.getElem?_eq_some_iff.mp h).1
      have : i = ns.length := by simp at hl; omega
      subst this
      rw [List.getElem?_append_right (Nat.le_refl _)] at h
      simp at h
      exact .inr ⟨rfl, h.symm⟩
  refine ⟨fun i m h => ?_, fun i m h => ?_, fun i m k h q => ?_, fun i m k h q => ?_, ?_⟩
  · rcases cs i m h with h | ⟨rfl, rfl⟩
    · exact g.lt i m h
    · exact ⟨h1, h2⟩
  · rcases cs i m h with h | ⟨rfl, rfl⟩
    · exact g.ne i m h
    · exact h3
  · rcases cs i m h with h | ⟨rfl, rfl⟩
    · have := g.lt i m h
      have l := (List.getElem?_eq_some_iff.mp h).1
      rw [node_app (by omega)] at q
      exact g.ordw i m k h q
    · rw [node_app h1] at q
      exact h4 k q
  · rcases cs i m h with h | ⟨rfl, rfl⟩
    · have := g.lt i m h
      have l := (List.getElem?_eq_some_iff.mp h).1
      rw [node_app (by omega)] at q
      exact g.ordt i m k h q
    · rw [node_app h2] at q
      exact h5 k q
  · refine List.nodup_append.mpr ⟨g.nd, List.pairwise_singleton _ n, fun x hx y hy => ?_⟩
    cases List.mem_singleton.mp hy
    rintro rfl
    exact h6 hx
theorem Good.nil : Good [] := ⟨fun i n h => by simp at h, fun i n h => by simp at h, fun i n m h => by simp at h, fun i n m h => by simp at h, .nil⟩
end Zc
/-! Zb: the store of diagrams as a resource. -/
namespace Zc
open PySem L2
inductive Fo where
  | and | or | dif
deriving DecidableEq
def Fo.str : Fo → Str
  | .and => "and" | .or => "or" | .dif => "differ"
def Fo.op : Fo → Bool → Bool → Bool
  | .and, a, b => a && b
  | .or, a, b => a || b
  | .dif, a, b => a != b
/-- the ghost of a store: its nodes, its known results, its addresses -/
structure SG where
  ns : List Nd
  rs : List (Fo × Nat × Nat × Nat)
  a : Addr
  dx : Addr
  b : Addr
  c : Addr
  d : Addr
  ps : List Addr
def SG.M (s : SG) (x : Addr) : Prop := x = s.b ∨ x = s.c ∨ x = s.d
def SG.P (s : SG) (x : Addr) : Prop := x = s.a ∨ x = s.dx ∨ s.M x ∨ x ∈ s.ps
def ndT (n : Nd) : T := .tup [.int n.e, .int (n.w : Int), .int (n.t : Int)]
def ndH (n : Nd) : HO := .tup [.int n.e, .int (n.w : Int), .int (n.t : Int)]
def ndK (n : Nd) : List Key := [.inl n.e, .inl (n.w : Int), .inl (n.t : Int)]
/-- the dict of the nodes' numbers -/
def numsOf (ns : List Nd) : List (List Key × V) := ns.zipIdx.map fun x => (ndK x.1, .int ((x.2 + 2 : Nat) : Int))
def resK (f : Fo) (a b : Nat) : List Key := [.inr f.str, .inl (a : Int), .inl (b : Int)]
def resOf (rs : List (Fo × Nat × Nat × Nat)) : List (List Key × V) := rs.map fun x => (resK x.1 x.2.1 x.2.2.1, .int (x.2.2.2 : Int))
/-- a result is right -/
def ResOk (ns : List Nd) (x : Fo × Nat × Nat × Nat) : Prop := x.2.1 < ns.length + 2 ∧ x.2.2.1 < ns.length + 2 ∧ x.2.2.2 < ns.length + 2 ∧ ∀ σ, den ns x.2.2.2 σ = x.1.op (den ns x.2.1 σ) (den ns x.2.2.1 σ)
structure SG.Ok (E : List Int) (s : SG) : Prop where
  good : Good s.ns
  ent : ∀ n, n ∈ s.ns → n.e ∈ E
  res : ∀ x, x ∈ s.rs → ResOk s.ns x
  len : s.ps.length = s.ns.length
structure storeAt (C : Addr) (E : List Int) (s : SG) (H : Hp) : Prop where
  ok : s.Ok E
  ha : H s.a = some (.ins C s.dx [("_nodes", .ref s.b), ("_numbers", .ref s.c), ("_results", .ref s.d)])
  hdx : H s.dx ≠ none
  hb : H s.b = some (.lst (.non :: .non :: s.ps.map V.ref))
  hc : H s.c = some (.dT (numsOf s.ns))
  hd : H s.d = some (.dT (resOf s.rs))
  hp : ∀ (i : Nat) (p : Addr) (n : Nd), s.ps[i]? = some p → s.ns[i]? = some n → H p = some (ndH n)
  cd : s.c ≠ s.d
/-- H' is H with some places of W told anew -/
inductive Upds (W : Addr → Prop) (H : Hp) : Hp → Prop
  | refl : Upds W H H
  | step {H' : Hp} {b : Addr} {o : HO} : Upds W H H' → W b → Upds W H (upd H' b o)
theorem Upds.keep {W : Addr → Prop} {H H' : Hp} (u : Upds W H H') {a : Addr} (h : ¬ W a) : H' a = H a := by
  induction u with
  | refl => rfl
  | @step H1 b o u w ih =>
    rw [upd_ne (fun e => h (by rw [e]; exact w)), ih]
theorem Upds.al {W : Addr → Prop} {H H' : Hp} (u : Upds W H H') {a : Addr} (h : H a ≠ none) : H' a ≠ none := by
  induction u with
  | refl => exact h
  | @step H1 b o u w ih =>
    by_cases e : a = b
    · subst e
      rw [upd_same]
      intro z
      cases z
    · rw [upd_ne e]
      exact ih
theorem Upds.wide {W W' : Addr → Prop} {H H' : Hp} (u : Upds W H H') (h : ∀ b, W b → W' b) : Upds W' H H' := by
  induction u with
  | refl => exact .refl
  | step u w ih => exact .step ih (h _ w)
theorem Upds.res {R : Rs} {W : Addr → Prop} {g : R.G} {H H' : Hp} (r : R.Res g H) (u : Upds W H H') (h : ∀ b, W b → ¬ R.P g b) : R.Res g H' := by
  induction u with
  | refl => exact r
  | step u w ih => exact R.put ih (h _ w)
/-- the store of R: what of its ghost tells the store, how it changes -/
structure HasStore (R : Rs) (C : Addr) (E : List Int) where
  sg : R.G → Option SG
  set : R.G → SG → R.G
  sg_set : ∀ g s, sg (set g s) = some s
  res : ∀ {g H s}, R.Res g H → sg g = some s → storeAt C E s H
  put : ∀ {g H H' s s'}, R.Res g H → sg g = some s → Upds (fun b => s.P b ∨ H b = none) H H' → storeAt C E s' H' → (∀ a, s'.P a → s.P a ∨ H a = none) → R.Res (set g s') H'
  new : ∀ {g H H' s'}, R.Res g H → sg g = none → Upds (fun b => H b = none) H H' → storeAt C E s' H' → (∀ a, s'.P a → H a = none) → R.Res (set g s') H'
  P : ∀ {g s a}, sg g = some s → s.P a → R.P g a
  P' : ∀ {g s' a}, R.P (set g s') a → R.P g a ∨ s'.P a
  M : ∀ {g s a}, sg g = some s → s.M a → R.M g a
  M' : ∀ {g H s a}, R.Res g H → sg g = some s → s.P a → R.M g a → s.M a
  M'' : ∀ {g s' a}, R.M (set g s') a → R.M g a ∨ s'.M a
/-! ### the draw beside a store -/
def Rboth (C : Addr) (E : List Int) (R : Rs) : Rs where
  G := R.G × Option SG
  Res := fun g H => R.Res g.1 H ∧ (∀ s, g.2 = some s → storeAt C E s H ∧ ∀ a, s.P a → ¬ R.P g.1 a)
  P := fun g a => R.P g.1 a ∨ ∃ s, g.2 = some s ∧ s.P a
  M := fun g a => R.M g.1 a ∨ ∃ s, g.2 = some s ∧ s.M a
  mp := fun h => h.elim (fun h => .inl (R.mp h)) fun ⟨s, e, h⟩ => .inr ⟨s, e, .inr (.inr (.inl h))⟩
  pn := fun {g H a} r h => by
    rcases h with h | ⟨s, e, h⟩
    · exact R.pn r.1 h
    · obtain ⟨st, _⟩ := r.2 s e
      rcases h with rfl | rfl | (rfl | rfl | rfl) | h
      · exact ne_none st.ha
      · exact st.hdx
      · exact ne_none st.hb
      · exact ne_none st.hc
      · exact ne_none st.hd
      · obtain ⟨i, hi⟩ := List.getElem?_of_mem h
        have := (List.getElem?_eq_some_iff.mp hi).1
        have hl : i < s.ns.length := by rw [← st.ok.len]; exact this
        exact ne_none (st.hp i a s.ns[i] hi (List.getElem?_eq_getElem hl))
  put := fun {g H b o} r h => by
    refine ⟨R.put r.1 fun z => h (.inl z), fun s e => ?_⟩
    obtain ⟨st, dj⟩ := r.2 s e
    have no : ∀ a, s.P a → a ≠ b := fun a ha e' => h (.inr ⟨s, e, e' ▸ ha⟩)
    refine ⟨⟨st.ok, ?_, ?_, ?_, ?_, ?_, fun i p n h1 h2 => ?_, st.cd⟩, dj⟩
    · rw [upd_ne (no _ (.inl rfl))]
      exact st.ha
    · rw [upd_ne (no _ (.inr (.inl rfl)))]
      exact st.hdx
    · rw [upd_ne (no _ (.inr (.inr (.inl (.inl rfl)))))]
      exact st.hb
    · rw [upd_ne (no _ (.inr (.inr (.inl (.inr (.inl rfl))))))]
      exact st.hc
    · rw [upd_ne (no _ (.inr (.inr (.inl (.inr (.inr rfl))))))]
      exact st.hd
    · rw [upd_ne (no _ (.inr (.inr (.inr (List.mem_of_getElem? h1)))))]
      exact st.hp i p n h1 h2
def Rboth.store (C : Addr) (E : List Int) (R : Rs) : HasStore (Rboth C E R) C E where
  sg := fun g => g.2
  set := fun g s => (g.1, some s)
  sg_set := fun _ _ => rfl
  res := fun r e => (r.2 _ e).1
  put := fun {g H H' s s'} r e u st hp => by
    obtain ⟨r1, r2⟩ := r
    obtain ⟨st0, dj⟩ := r2 s e
    refine ⟨Upds.res r1 u fun b hb => ?_, fun s2 e2 => ?_⟩
    · rcases hb with hb | hb
      · exact dj b hb
      · exact fun z => R.pn r1 z hb
    · cases e2
      refine ⟨st, fun a ha => ?_⟩
      rcases hp a ha with h | h
      · exact dj a h
      · exact fun z => R.pn r1 z h
  new := fun {g H H' s'} r e u st hp => by
    obtain ⟨r1, r2⟩ := r
    refine ⟨Upds.res r1 u fun b hb z => R.pn r1 z hb, fun s2 e2 => ?_⟩
    cases e2
    exact ⟨st, fun a ha z => R.pn r1 z (hp a ha)⟩
  P := fun e h => .inr ⟨_, e, h⟩
  P' := fun h => by
    rcases h with h | ⟨s, e, h⟩
    · exact .inl (.inl h)
    · cases e
      exact .inr h
  M := fun e h => .inr ⟨_, e, h⟩
  M' := fun {g H s a} r e hp hm => by
    rcases hm with h | ⟨s2, e2, h⟩
    · exact ((r.2 s e).2 a hp (R.mp h)).elim
    · rw [e] at e2
      cases e2
      exact h
  M'' := fun h => by
    rcases h with h | ⟨s, e, h⟩
    · exact .inl (.inl h)
    · cases e
      exact .inr h
end Zc
/-! Zs: set(a list of ints), sorted of it. -/
namespace Zs
open PySem PySem.Spec PyProof.Rows L2
abbrev ob0 (w : World) : Obj := { cls := .type "set", dict := none, data := .set #[] 0 (.fresh 0 0 (!w.params.followText "set-order")) }
section
variable {P : Program} {w : World} {A : Around} {E : Value → Shared → Prop} {s : Shared}
theorem set_of_list {l : Addr} {its : Array Value} (ns : List Int) {Q : Value → Shared → Prop} (calm : A.handled = none) (isl : s.heap.IsList l its) (hin : IntsAre its.toList ns) (room : ns.length + 1 < scanBound)
    (fin : ∀ (h2 : Heap) (tk c : Nat), SetR w h2 s.heap.objs.size (fun j => decide (j ∈ ns)) c → c ≤ ns.length → (∀ b o, s.heap.get? b = some o → h2.get? b = some o) → Q (.ref s.heap.objs.size) { s with heap := h2, toks := tk }) :
    wpAny (model P w) A (call (.type "set") [.ref l]) Q E s := by
  have sz : its.size = ns.length := by simpa using IntsAre.length hin
  obtain ⟨c, tl, mro⟩ := F.called_set.mro
  have made := F.called_set.made
  have sub := F.called_set.sub
  refine wpAny_call (codeAny_of_tree ?_)
  change wpAny _ _ (callAny (.type "set") _) _ _ _
  refine wpAny_pure ⟨Code.quiet_builtin _ (by decide +kernel), codeAny_builtin F.entry_type_call ?_⟩
  rw [Around.under_plain (weight_type_call_type "set" [.ref l] []) rfl]
  have nt := F.called_set.notType
  have cc := F.called_set.canCreate
  have tc := F.typeCall_set_1 (.ref l)
  repeat (any_goals (first | assumption | wp_step))
  refine codeAny_mono (code_set_led1 (.ref l) (E := E) (Q₁ := fun ob t => ob = .ref s.heap.objs.size ∧ t = { s with heap := s.heap.push (ob0 w) }) ⟨rfl, rfl⟩) fun r t hr => ?_
  cases r with
  | error e => exact hr
  | ok fl =>
    cases fl with
    | ret ob =>
      obtain ⟨rfl, rfl⟩ := hr
      have gS : (s.heap.push (ob0 w)).get? s.heap.objs.size = some (ob0 w) := Heap.get?_push_size _ rfl
      have tS : Shared.TypeIs { s with heap := s.heap.push (ob0 w) } (.ref s.heap.objs.size) "set" := ⟨_, gS, rfl⟩
      have il := F.called_set.init.lookup
      have ib := F.called_set.init.bind (.ref s.heap.objs.size)
      repeat (any_goals (first | assumption | wp_step))
      refine codeAny_mono (codeAny_call_builtin (R := wants (fun r t => r = .none ∧ ∃ h2 tk c, t = { s with heap := h2, toks := tk } ∧ SetR w h2 s.heap.objs.size (fun j => decide (j ∈ ns)) c ∧ c ≤ ns.length ∧ (∀ b o, s.heap.get? b = some o → h2.get? b = some o)) E)
        F.called_set.init.plain F.entry_set_init (check_set_init_1 tS ?_)) fun r2 t2 hr2 => ?_
      · obtain ⟨ol, hol, oc, nl, od⟩ := isl
        obtain ⟨ocls, odict, odata, oslots⟩ := ol
        simp only at oc od
        subst oc; subst od
        have gl : (s.heap.push (ob0 w)).get? l = some { cls := .type "list", dict := odict, data := .seq its nl, slots := oslots } := Heap.get?_push_of_some _ hol
        have q1 := F.sub_list_set
        have q2 := F.sub_list_frozenset
        have q3 : (Value.type "list" == Value.type "dict") = false := by decide
        have isl2 : (s.heap.push (ob0 w)).IsList l its := ⟨_, gl, rfl, nl, rfl⟩
        unfold Builtin.«set.__init__» noKeywords Builtin.Frozenset.updateFrom
        generalize ePI : pyIter = PI
        wp_walk
        subst ePI
        refine wpAny_pyIter_list isl2 ?_
        refine wpAny_bind (wpAny_runValue ?_)
        have lS : l < s.heap.objs.size := Heap.lt_size hol
        have calm3 : A.in1.in1.in1.handled = none := by simp [calm]
        have sz1 : (s.heap.push (ob0 w)).objs.size = s.heap.objs.size + 1 := Heap.size_push ..
        have lI : l ≠ (s.heap.push (ob0 w)).objs.size := by
          rw [sz1]
          exact Nat.ne_of_lt (Nat.lt_succ_of_lt lS)
        have Sfp : s.heap.objs.size ∉ [(s.heap.push (ob0 w)).objs.size, l] := by
          rw [sz1]
          simp only [List.mem_cons, List.mem_singleton, List.not_mem_nil, or_false, not_or]
          exact ⟨Nat.ne_of_lt (Nat.lt_succ_self _), Nat.ne_of_gt lS⟩
        have val : ∀ (i : Nat) (v : Value), its[i]? = some v → ∃ k t, ns[i]? = some k ∧ v = .int k t := fun i v hv => by
          have hi : i < ns.length := sz ▸ (Array.getElem?_eq_some_iff.mp hv).1
          obtain ⟨t, e⟩ := PyProof.Rows.IntsAre.int_at hin i v (by rw [Array.getElem?_toList]; exact hv)
          exact ⟨ns[i], t, List.getElem?_eq_getElem hi, by rw [e, List.getD_eq_getElem?_getD, List.getElem?_eq_getElem hi] <;> rfl⟩
        refine set_update_ints ((Walks.list calm3 _ l lI its).toS) s.heap.objs.size Sfp ns sz room val (its.size - 0) 0 _ (by omega) (Nat.zero_le _) ⟨⟨_, Heap.get?_push_size _ rfl, rfl, rfl⟩, isl2.push _⟩ ?a0 ?aR
        case a0 => exact ⟨0, Nat.le_refl 0, setR_new_at (Heap.get?_push_of_some _ gS)⟩
        case aR =>
          intro t c mv hc sr
          obtain ⟨h2, g2, d2, tk, o2⟩ := t
          cases (show g2 = s.gens from mv.gens)
          cases (show d2 = s.drawn from mv.drawn)
          cases (show o2 = s.os from mv.os)
          change wpAny _ _ _ _ _ _
          refine wpAny_pure ?_
          change wpAny _ _ (ret Value.none) _ _ _
          rw [sz] at hc
          refine wpAny_pure ⟨rfl, h2, tk, c, rfl, sr, hc, fun b o e => ?_⟩
          have b0 : b < s.heap.objs.size := Heap.lt_size e
          have b2 : b ≠ (s.heap.push (ob0 w)).objs.size := by
            rw [sz1]
            exact Nat.ne_of_lt (Nat.lt_succ_of_lt b0)
          exact mv.heap b o (by simp only [List.mem_cons, List.mem_singleton, List.not_mem_nil, or_false, not_or]; exact ⟨Nat.ne_of_lt b0, b2⟩) (Heap.get?_push_of_some _ (Heap.get?_push_of_some _ e))
      · cases r2 with
        | error e => exact hr2
        | ok fl2 =>
          cases fl2 with
          | ret r =>
            obtain ⟨rfl, h2, tk, c, rfl, sr, hc, kp⟩ := hr2
            repeat (any_goals (first | assumption | wp_step))
            exact fin _ _ _ sr hc kp
          | _ => exact hr2.elim
    | _ => exact hr.elim
end
end Zs
namespace Zc
open PySem L2
/-- set(xs), a list of ints -/
def rSetL (K : PySem.W.Frag) (w : World) : List V → Hp → VK → Prop := fun vs H Q => ∃ (a : Addr) (ns : List Int), vs = [.ref a] ∧ SqL K H a (ns.map V.int) ∧ ns.length < 1000 ∧
  ∀ (p : Addr) (c : Nat), H p = none → c ≤ ns.length → Q (.ref p) (upd H p (SetO w p (fun j => decide (j ∈ ns)) c))
theorem cr_setL {X : Cx} (hc : X.calm = true) : CallR X (.type "set") (rSetL X.K X.w) := by
  intro pins s σ H vs us Q I r h
  obtain ⟨a, ns, rfl, hq, hl, q⟩ := h
  obtain ⟨its, rv, pl, hz⟩ := I.list hq
  rw [Vals.ref1 r]
  refine Zs.set_of_list ns (I.ok.hd hc) pl.isList (by simpa using ints_of_vals rv) (Nat.lt_of_le_of_lt hl (by decide)) fun h2 tk c sr hle kp => ?_
  exact ⟨.ref _, upd H s.heap.objs.size (SetO X.w s.heap.objs.size (fun j => decide (j ∈ ns)) c), I.laid (t' := tk) kp (Nat.le_refl _) (setO_new sr), rfl, q _ _ (I.hok.fresh (Nat.le_refl _)) hle⟩
section
variable {K : PySem.W.Frag} {R : Rs} {B : Bs R} {g : R.G} {es : List Ent} {te : TE} {post : T → R.G → List Ent → Prop}
theorem we_sortSet {w : World} (h : wE K R B te g es fun x g1 es1 => ∃ ns : List Int, x = .lst (ns.map .int) ∧ ns.length < 60 ∧ ∀ ms : List Int, ms.Pairwise (· < ·) → (∀ k, k ∈ ms ↔ k ∈ ns) → post (.lst (ms.map .int)) g1 es1) :
    wE K R B (tCB (rSortedSet w) (tCons (tCB (rSetL K w) (tCons te tNil)) tNil)) g es post := fun F σ H ok Q q => by
  refine h F σ H ok _ fun vx x g1 es1 F1 H1 l1 ok1 rx h1 => ?_
  obtain ⟨ns, rfl, hl, hp⟩ := h1
  cases rx with
  | lst h2 r2 =>
    cases r2.ints
    refine ⟨_, ns, rfl, Evl.ex_l ok1.i.ex h2, by omega, fun p c hn hc => ?_⟩
    obtain ⟨tr, ii⟩ := Tr.lay (o := SetO w p (fun j => decide (j ∈ ns)) c) ok1.i hn
    have ok2 := ok1.step tr ii
    refine ⟨p, _, c, rfl, upd_same, by omega, fun ms l hs hm _ hl2 => ?_⟩
    obtain ⟨tr2, i2⟩ := Tr.new (o := .lst (ms.map V.int)) ok2.i hl2
    exact q _ (.lst (ms.map .int)) g1 es1 _ _ ((l1.trans (.of tr)).trans (.of tr2)) (ok2.step tr2 i2) (.lst (Evl.sq_of upd_same) (.of_ints _ _)) (hp ms hs fun k => (hm k).trans (by simp))
end
end Zc
/-! Zk: the layer's rules with the written part told by name. -/
namespace Zc
open PySem L2
abbrev rLenG (K : PySem.W.Frag) : List V → Hp → VK → Prop := fun xs H Q => ∃ x n, xs = [x] ∧ LenV K x H n ∧ Q (.int n) H
abbrev rListG (K : PySem.W.Frag) : List V → Hp → VK → Prop := fun xs H Q => ∃ p ys, xs = [.ref p] ∧ (SqL K H p ys ∨ SqT K H p ys) ∧ ∀ l, H l = none → Q (.ref l) (upd H l (.lst ys))
abbrev tTruG (K : PySem.W.Frag) (ta : TE) : TT := fun σ H Q => ta σ H fun x H' => ∃ k, TruV K x H' k ∧ Q k H'
section
variable {X : Cx} {K : PySem.W.Frag} {w : World}
theorem ixK (h : X.K = K := by rfl) : IxR X (rIx K) := h ▸ ix_seq
theorem inK (h : X.K = K := by rfl) : OpR X (compareOp .In) (rIn K false) := h ▸ op_in_seq
theorem niK (h : X.K = K := by rfl) : OpR X (compareOp .NotIn) (rIn K true) := h ▸ op_notIn_seq
theorem eqDK (hu : X.A.units + 64 < cLine) (h : X.K = K := by rfl) : OpR X (compareOp .Eq) (rEqD K) := h ▸ op_eqD hu
theorem neDK (hu : X.A.units + 64 < cLine) (h : X.K = K := by rfl) : OpR X (compareOp .NotEq) (rNeD K) := h ▸ op_neD hu
theorem inDK (hu : X.A.units + 65 < cLine) (h : X.K = K := by rfl) : OpR X (compareOp .In) (rInD K) := h ▸ op_inD hu
theorem niDK (hu : X.A.units + 65 < cLine) (h : X.K = K := by rfl) : OpR X (compareOp .NotIn) (rNotInD K) := h ▸ op_notInD hu
theorem catTK (h : X.K = K := by rfl) : OpR X (binaryOp .Add) (rCatT K) := h ▸ op_catT
theorem catAK (h : X.K = K := by rfl) : OpR X (binaryOp .Add) (rCatA K) := h ▸ op_catA
theorem lenK (h : X.K = K := by rfl) : CallR X (.builtin "len") (rLenG K) := h ▸ call_len
theorem listK (h : X.K = K := by rfl) : CallR X (.type "list") (rListG K) := h ▸ call_list_of
theorem sortIK (h : X.K = K := by rfl) : CallR X (.builtin "sorted") (rSortedI K) := h ▸ cr_sortedI
theorem allK (hc : X.calm = true := by rfl) (h : X.K = K := by rfl) : CallR X (.builtin "all") (rAll K) := h ▸ cr_all hc
theorem anyK (hc : X.calm = true := by rfl) (h : X.K = K := by rfl) : CallR X (.builtin "any") (rAny K) := h ▸ cr_any hc
theorem sumK (hc : X.calm = true := by rfl) (h : X.K = K := by rfl) : CallR X (.builtin "sum") (rSum K) := h ▸ cr_sum hc
theorem isiK (h : X.K = K := by rfl) : CallR X (.builtin "isinstance") (rIsi K) := h ▸ call_isi
theorem isiTK (h : X.K = K := by rfl) : CallR X (.builtin "isinstance") (rIsiT K) := h ▸ call_isiT
theorem setLK (hc : X.calm = true := by rfl) (h : X.K = K := by rfl) (hw : X.w = w := by rfl) : CallR X (.type "set") (rSetL K w) := h ▸ hw ▸ cr_setL hc
theorem sortSK (hc : X.calm = true := by rfl) (hw : X.w = w := by rfl) : CallR X (.builtin "sorted") (rSortedSet w) := hw ▸ cr_sortedSet hc
theorem slLK (h : X.K = K := by rfl) : SlR X (rSlL K) := h ▸ sl_list
theorem slTK (h : X.K = K := by rfl) : SlR X (rSlA K) := h ▸ sl_tupA
variable {a l tg : Expr} {ta tl te : TE} {tb : TE} {pos : Pos}
theorem piList (hl : PE X l tl) (h : X.K = K := by rfl) : PI X tg l (iList K tl) := h ▸ pi_list hl
theorem piTup (hl : PE X l tl) (h : X.K = K := by rfl) : PI X tg l (iTup K tl) := h ▸ pi_tup hl
theorem ptTru (ha : PE X a ta) (he : ∀ whole, isTrue a X.env whole = (do let v ← whole; standAt a.pos; holding [v] (truthy v)) := by intro _; rfl) (h : X.K = K := by rfl) : PT X a (tTruG K ta) := h ▸ pt_truth ha he
theorem pgTup {es : List Expr} {k : Nat} {t : TGs} {n : Nat} (hc : X.calm = true) (hp : PGs X es t) (hn : (assignEach es X.env).length = n := by rfl) (hst : (assignEach es X.env).findIdx? (·.1) = none := by rfl) (h : X.K = K := by rfl) :
    PG X (.Tuple es k pos) (gTup K n t) := h ▸ pg_tup hc hp hn hst
theorem peNot (ha : PE X a ta) (h : X.K = K := by rfl) : PE X (.UnaryOp .Not a pos) (tNotT K ta) := h ▸ pe_notT ha
theorem peAnd {b : Expr} {rest : List Expr} (ha : PE X a ta) (hb : PE X (.BoolOp .And (b :: rest) pos) tb) (h : X.K = K := by rfl) : PE X (.BoolOp .And (a :: b :: rest) pos) (tAndT K ta tb) := h ▸ pe_andT ha hb
theorem peOr {b : Expr} {rest : List Expr} (ha : PE X a ta) (hb : PE X (.BoolOp .Or (b :: rest) pos) tb) (h : X.K = K := by rfl) : PE X (.BoolOp .Or (a :: b :: rest) pos) (tOrT K ta tb) := h ▸ pe_orT ha hb
theorem piEnum {e : Expr} {tA : TA} {p pos tpos : Pos} {elts : List Expr} {kk : Nat} (hg : Gl X "enumerate") (hm : X.mg "enumerate" = none) (ha : PA X [e] tA) (hs : starEach [e] X.env = [(false, eval e X.env)] := by rfl) (h : X.K = K := by rfl) :
    PI X (.Tuple elts kk tpos) (.Call (.Name "enumerate" p) [e] [] pos) (iEnum K tA) := h ▸ pi_enum hg hm ha hs
end
section
variable {K : PySem.W.Frag} {R : Rs} {B : Bs R} {g g' : R.G} {es es' : List Ent} {te : TE} {nx bk ct : R.G → List Ent → Prop} {rt : T → R.G → Prop}
/-- behind a statement no more is known than Mid -/
theorem wq_seqM {t u : TS} (Mid : R.G → List Ent → Prop) (h : wQ K R B t g es Mid rt bk ct) (k : ∀ g1 es1, Mid g1 es1 → wQ K R B u g1 es1 nx rt bk ct) : wQ K R B (tSeq t u) g es nx rt bk ct := fun F σ H ok D d =>
  h F σ H ok _ ⟨fun g1 es1 F1 σ1 H1 e1 ok1 h1 => k g1 es1 h1 F1 σ1 H1 ok1 D (d.up e1), d.rt, d.bk, d.ct⟩
theorem w_iteBT {b : Bool} {A C : Prop} (h : b = true) (a : A) : if b = true then A else C := by
  rw [if_pos h]
  exact a
theorem w_iteBF {b : Bool} {A C : Prop} (h : b = false) (a : C) : if b = true then A else C := by
  rw [if_neg (by rw [h]; exact Bool.false_ne_true)]
  exact a
theorem w_isNF {x : T} {A C : Prop} (h : x.isN = false) (a : C) : if x.isN = true then A else C := w_iteBF h a
theorem w_isNT {x : T} {A C : Prop} (h : x.isN = true) (a : A) : if x.isN = true then A else C := w_iteBT h a
theorem w_isNNF {x : T} {A C : Prop} (h : x.isN = false) (a : A) : if (!x.isN) = true then A else C := w_iteBT (by rw [h] <;> rfl) a
theorem w_isNNT {x : T} {A C : Prop} (h : x.isN = true) (a : C) : if (!x.isN) = true then A else C := w_iteBF (by rw [h] <;> rfl) a
theorem isi_i {x : T} {n s : String} {p : Bool → Prop} (h1 : x.typ = some s) (h2 : (kitB s n).isSome = true) (h3 : p ((kitB s n).getD false)) : ∃ t b, x.typ = some t ∧ kitB t n = some b ∧ p b := by
  refine ⟨s, _, h1, ?_, h3⟩
  cases e : kitB s n with
  | none =>
    rw [e] at h2
    cases h2
  | some b => rfl
theorem isiT_i {x : T} {n m s : String} {p : Bool → Bool → Prop} (h1 : x.typ = some s) (h2 : (kitB s n).isSome = true) (h2' : (kitB s m).isSome = true) (h3 : p ((kitB s n).getD false) ((kitB s m).getD false)) : ∃ t b1 b2, x.typ = some t ∧ kitB t n = some b1 ∧ kitB t m = some b2 ∧ p b1 b2 := by
  obtain ⟨t, b1, e1, e2, _⟩ := isi_i (p := fun _ => True) h1 h2 trivial
  obtain ⟨t', b2, e3, e4, _⟩ := isi_i (p := fun _ => True) h1 h2' trivial
  rw [h1] at e1 e3
  cases e1
  cases e3
  rw [e2, e4] at h3
  exact ⟨s, b1, b2, h1, e2, e4, h3⟩
theorem w_iteEN {xs : List T} {A C : Prop} (h1 : xs.length = 0 → A) (h2 : 0 < xs.length → C) : if (!!xs.isEmpty) = true then A else C := by
  cases xs with
  | nil => exact h1 rfl
  | cons x xs => exact h2 (Nat.succ_pos _)
theorem w_iteNP {c : Prop} [Decidable c] {A C : Prop} (hc : ¬ c) (h : A) : if (!decide c) = true then A else C := by
  rw [decide_eq_false hc]
  exact h
theorem w_iteNM {c : Prop} [Decidable c] {A C : Prop} (hc : c) (h : C) : if (!decide c) = true then A else C := by
  rw [decide_eq_true hc]
  exact h
theorem cmul_l {i j : Int} (h : -(2 ^ 64) < i ∧ i < 2 ^ 64) : CMul i j := .inl h
theorem cmul_r {i j : Int} (h : -(2 ^ 64) < j ∧ j < 2 ^ 64) : CMul i j := .inr h
theorem w_iteE {xs : List T} {A C : Prop} (h1 : 0 < xs.length → A) (h2 : xs.length = 0 → C) : if (!xs.isEmpty) = true then A else C := by
  cases xs with
  | nil => exact h2 rfl
  | cons x xs => exact h1 (Nat.succ_pos _)
/-- x = e; of the value no more is known than p -/
theorem wq_seqI {i : Nat} {u : TS} (p : T → Prop) (h : wE K R B te g es fun t g1 es1 => g1 = g ∧ es1 = es ∧ p t) (k : ∀ t, p t → wQ K R B u g (es.set i (.dat t)) nx rt bk ct) : wQ K R B (tSeq (tAsg te (gName i)) u) g es nx rt bk ct :=
  wq_seq (wq_set (we_mono h fun t g1 es1 hh => by
    obtain ⟨rfl, rfl, hp⟩ := hh
    exact k t hp))
end
def natT (ns : List Nat) : List T := ns.map fun n : Nat => T.int (n : Int)
theorem mem_rangeT {n : Nat} {x : T} (h : x ∈ rangeT 0 n) : ∃ k : Nat, k < n ∧ x = .int (k : Int) := by
  obtain ⟨k, hk, rfl⟩ := List.mem_map.mp h
  exact ⟨k, List.mem_range.mp hk, by simp⟩
theorem rangeT_mem {n k : Nat} (h : k < n) : T.int (k : Int) ∈ rangeT 0 n := by
  unfold rangeT
  refine List.mem_map.mpr ⟨k, List.mem_range.mpr h, ?_⟩
  simp
theorem wa_mono {K : PySem.W.Frag} {R : Rs} {B : Bs R} {g : R.G} {es : List Ent} {t : TA} {pl pl' : List T → R.G → List Ent → Prop} (h : wA K R B t g es pl) (m : ∀ ts g es, pl ts g es → pl' ts g es) : wA K R B t g es pl' :=
  fun F σ H ok Q q => h F σ H ok Q fun v t g' es' F' H' l o r p => q v t g' es' F' H' l o r (m _ _ _ p)
section
variable {K : PySem.W.Frag} {R : Rs} {B : Bs R} {g : R.G} {es : List Ent} {te : TE} {tt : TT} {post : T → R.G → List Ent → Prop}
/-- [e for k in range(n)]: each item has p -/
theorem we_lcN {i : Nat} {t : TA} (p : T → Prop) (h : wA K R B t g es fun ts g1 es1 => ∃ j : Int, ts = [.int j] ∧ (0 ≤ j ∧ j ≤ 1000) ∧ NoOwn [i] es1 ∧
    (∀ k : Nat, (k : Int) < j → wE K R B te g1 (es1.set i (.dat (.int (k : Int)))) fun y g3 e3 => g3 = g1 ∧ e3 = es1.set i (.dat (.int (k : Int))) ∧ p y) ∧
    ∀ ys, (ys.length : Int) = j → (∀ y, y ∈ ys → p y) → post (.lst ys) g1 es1) : wE K R B (tLc (iRng1 t) (gName i) tYes te [i]) g es post := by
  refine we_lcAll p (wi_rng1 ?_)
  refine wa_mono h fun ts g1 es1 hh => ?_
  obtain ⟨j, rfl, hj, no, he, hp⟩ := hh
  refine ⟨j, rfl, by omega, ?_, no, fun x hx => ?_, fun ys hl hy => hp ys ?_ hy⟩
  · rw [rangeT_len]
    omega
  · obtain ⟨k, hk, rfl⟩ := mem_rangeT hx
    exact he k (by omega)
  · rw [hl, rangeT_len]
    omega
/-- [k for k in range(n) if c k], what is shared stays -/
theorem we_lcFN {i : Nat} {t : TA} (c : Nat → Bool) (h : wA K R B t g es fun ts g1 es1 => ∃ n : Nat, ts = [.int (n : Int)] ∧ n ≤ 1000 ∧ NoOwn [i] es1 ∧ i < es1.length ∧
    (∀ k : Nat, k < n → wT K R B tt g1 (es1.set i (.dat (.int (k : Int)))) fun b g2 e2 => g2 = g1 ∧ e2 = es1.set i (.dat (.int (k : Int))) ∧ b = c k) ∧
    ∀ ys : List Nat, ys.length ≤ n → (∀ k, k ∈ ys ↔ k < n ∧ c k = true) → post (.lst (natT ys)) g1 es1) : wE K R B (tLc (iRng1 t) (gName i) tt (tVar i) [i]) g es post := by
  refine we_lcFM (fun x => match x with | .int k => c k.toNat | _ => false) id (wi_rng1 ?_)
  refine wa_mono h fun ts g1 es1 hh => ?_
  obtain ⟨n, rfl, hj, no, hi, he, hp⟩ := hh
  refine ⟨(n : Int), rfl, by omega, ?_, no, fun x hx => ?_, ?_⟩
  · rw [rangeT_len]
    omega
  · obtain ⟨k, hk, rfl⟩ := mem_rangeT hx
    refine fun F σ H ok Q q => he k hk F σ H ok Q fun b g2 e2 F2 H2 l2 o2 hb => q b g2 e2 F2 H2 l2 o2 ?_
    obtain ⟨rfl, rfl, rfl⟩ := hb
    refine ⟨rfl, rfl, rfl, fun _ => we_var (List.getElem?_set_self hi) ⟨rfl, rfl, rfl⟩⟩
  · have : ((rangeT 0 (Int.toNat (n : Int))).filter (fun x => match x with | .int k => c k.toNat | _ => false)).map id = natT ((List.range n).filter c) := by
      rw [List.map_id, Int.toNat_natCast]
      unfold rangeT natT
      rw [List.filter_map]
      congr 1
      · funext k
        rw [Int.zero_add]
      · congr 1
        funext k
        show c (0 + (k : Int)).toNat = c k
        rw [Int.zero_add, Int.toNat_natCast]
    rw [this]
    refine hp _ (Nat.le_trans (List.length_filter_le ..) (Nat.le_of_eq List.length_range)) fun k => ?_
    rw [List.mem_filter, List.mem_range]
end
theorem all_map {α : Type} {f : α → T} {P : α → Prop} : ∀ {ys : List T}, (∀ y, y ∈ ys → ∃ x : α, y = f x ∧ P x) → ∃ xs : List α, ys = xs.map f ∧ ∀ x, x ∈ xs → P x
  | [], _ => ⟨[], rfl, fun _ h => nomatch h⟩
  | y :: ys, h => by
    obtain ⟨x, rfl, hx⟩ := h y List.mem_cons_self
    obtain ⟨xs, rfl, hs⟩ := all_map fun y hy => h y (List.mem_cons_of_mem _ hy)
    refine ⟨x :: xs, rfl, fun z hz => ?_⟩
    rcases List.mem_cons.mp hz with rfl | hz
    · exact hx
    · exact hs z hz
end Zc
/-! Zm: methods of a store: calls, fields. -/
namespace Zc
open PySem L2
structure CalM (P : Program) (w : World) (K : PySem.W.Frag) (mg : Str → Option Value) (base : Heap) (k : Nat) (C : Addr) (m : Str) (ps : List Str) (sp : Sp) : Prop where
  ex : ∃ f fd, FnOk P w K mg base CX0 k f fd ps sp ∧ Meth K C m f ∧ Binds K fd ps []
structure DfnM (K : PySem.W.Frag) (C : Addr) (m q : Str) (st : Stmt) : Prop where
  ex : ∃ f fd, FunD K m q (defArgs st) (defBody st) (defScope st) [] [] f fd ∧ Meth K C m f
/-- the class of a store -/
structure ClsS (K : PySem.W.Frag) (C : Addr) : Prop where
  cls : Cls K C
  nodes : NoAttr K C "_nodes"
  numbers : NoAttr K C "_numbers"
  results : NoAttr K C "_results"
theorem pe_calM {X : Cx} {k j : Nat} {ps : List Str} {sp : Sp} {m : Str} {C : Addr} {apos pos : Pos} {o e : Expr} {es : List Expr} {ta : TE} {t : TA} {pl : Sem Bool} (c : Cls X.K C) (M : CalM X.prog X.w X.K X.mg X.base k C m ps sp) (hr : Room j X.A) (hj : k ≤ j)
    (he : PE X o ta) (ha : PA X (e :: es) t)
    (hst : starEach (e :: es) X.env = (false, eval e X.env) :: starEach es X.env := by rfl) (hpl : (backTo pos (starEach es X.env)).any (·.1) = false := by rfl)
    (ht : eval (.Call (.Attribute o m apos) (e :: es) [] pos) X.env = (do
      let ov ← eval o X.env
      standAt apos.atName
      let (f, first) ← holding [ov] (getMethod ov m pl)
      callWith pos f first (backTo pos (starEach (e :: es) X.env)) (backToKw pos (keywordEach [] X.env))) := by rfl) :
    PE X (.Call (.Attribute o m apos) (e :: es) [] pos) (tMeth C m sp [] E0 ta t) := by
  obtain ⟨f, fd, F, mt, b⟩ := M.ex
  exact pe_meth (pl := pl) he c mt F (hr.mono hj) b .nil pass0 ha hst hpl ht
section
variable {K : PySem.W.Frag} {R : Rs} {C : Addr} {E : List Int} {B : Bs R} {g : R.G} {es : List Ent} {ta te : TE} {post : T → R.G → List Ent → Prop} {ms : List Bool}
/-- self.m(..) -/
theorem we_meth (hs : HasStore R C E) {m : Str} {pre : DSp R} {t : TA} (hl : ∀ x y z : V, ([("_nodes", x), ("_numbers", y), ("_results", z)] : List (Str × V)).lookup m = none)
    (h : wE K R B ta g es fun x g1 es1 => ∃ s, x = .raw (.ref s.a) ∧ hs.sg g1 = some s ∧ wAm K R B ms t g1 es1 fun ts g2 es2 => pre (x :: ts) g2 fun z g3 => post z g3 es2) : wE K R B (tMeth C m (spD K R (false :: ms) pre) [] E0 ta t) g es post := fun F σ H ok Q q => by
  refine h F σ H ok _ fun vx x g1 es1 F1 H1 l1 ok1 rx h1 => ?_
  obtain ⟨s, rfl, hg, h1⟩ := h1
  cases rx
  have st := hs.res ok1.i.res hg
  refine ⟨s.a, s.dx, _, rfl, st.ha, hl _ _ _, ?_⟩
  refine h1 F1 σ H1 ok1 _ fun vs ts g2 es2 F2 H2 l2 ok2 rs h2 => ?_
  rw [List.append_nil]
  exact ⟨F2, _, g2, _, ok2.i, .dat (.raw _) rs, h2, fun v t g3 F3 H3 tr i r p => q v t g3 es2 F3 H3 (l1.trans (l2.trans (.of tr))) (ok2.step tr i) r p⟩
end
end Zc
namespace Zc
open PySem L2
/-! ### the numbers' dict -/
theorem ndK_inj {n m : Nd} (h : ndK n = ndK m) : n = m := by
  unfold ndK at h
  injection h with h1 h2
  injection h2 with h2 h3
  injection h3 with h3 h4
  injection h1 with h1
  injection h2 with h2
  injection h3 with h3
  cases n
  cases m
  simp only [Nd.mk.injEq]
  exact ⟨h1, Int.ofNat_inj.mp h2, Int.ofNat_inj.mp h3⟩
theorem find_zip {n : Nd} : ∀ (ns : List Nd) (k : Nat), ((ns.zipIdx k).map fun x : Nd × Nat => ((ndK x.1, V.int ((x.2 + 2 : Nat) : Int)) : List Key × V)).find? (fun kv => decide (kv.1 = ndK n)) = (ns.idxOf? n).map fun i => (ndK n, V.int ((k + i + 2 : Nat) : Int))
  | [], k => by simp
  | m :: ns, k => by
    rw [List.zipIdx_cons, List.map_cons, List.find?_cons]
    by_cases e : m = n
    · subst e
      simp [List.idxOf?_cons]
    · have e' : ¬ ndK m = ndK n := fun z => e (ndK_inj z)
      rw [decide_eq_false e']
      simp only
      rw [find_zip ns (k + 1), List.idxOf?_cons]
      have e2 : (m == n) = false := by simp [e]
      rw [e2]
      cases ns.idxOf? n with
      | none => rfl
      | some i =>
        simp
        omega
theorem nums_get {ns : List Nd} {n : Nd} : valV (numsOf ns) (ndK n) = (ns.idxOf? n).map fun i => V.int ((i + 2 : Nat) : Int) := by
  unfold valV numsOf
  rw [find_zip ns 0]
  cases ns.idxOf? n with
  | none => rfl
  | some i => simp
theorem idx_some' {n : Nd} : ∀ (ns : List Nd) (i : Nat), ns.idxOf? n = some i → ns[i]? = some n
  | [], _, h => by simp at h
  | m :: ns, i, h => by
    rw [List.idxOf?_cons] at h
    by_cases e : m = n
    · subst e
      simp at h
      subst h
      rfl
    · have e2 : (m == n) = false := by simp [e]
      rw [e2] at h
      simp at h
      obtain ⟨j, h1, rfl⟩ := h
      exact idx_some' ns j h1
theorem idx_some {n : Nd} {ns : List Nd} {i : Nat} (h : ns.idxOf? n = some i) : ns[i]? = some n := idx_some' ns i h
theorem idx_none' {n : Nd} : ∀ (ns : List Nd), ns.idxOf? n = none → n ∉ ns
  | [], _, h => (List.not_mem_nil h).elim
  | m :: ns, h, hm => by
    rw [List.idxOf?_cons] at h
    by_cases e : m = n
    · subst e
      simp at h
    · have e2 : (m == n) = false := by simp [e]
      rw [e2] at h
      simp at h
      rcases List.mem_cons.mp hm with z | z
      · exact e z.symm
      · exact h z
theorem idx_none {n : Nd} {ns : List Nd} (h : ns.idxOf? n = none) : n ∉ ns := idx_none' ns h
theorem idx_last {n : Nd} {ns : List Nd} (h : n ∉ ns) : (ns ++ [n]).idxOf? n = some ns.length := by
  induction ns with
  | nil => simp [List.idxOf?_cons]
  | cons m ns ih =>
    have e : (m == n) = false := by
      simp
      rintro rfl
      exact h List.mem_cons_self
    rw [List.cons_append, List.idxOf?_cons, e, ih fun z => h (List.mem_cons_of_mem _ z)] <;> rfl
theorem nums_put {ns : List Nd} {n : Nd} (h : n ∉ ns) : putK (numsOf ns) (ndK n) (.int ((ns.length + 2 : Nat) : Int)) = numsOf (ns ++ [n]) := by
  have e : ((numsOf ns).any fun kv => decide (kv.1 = ndK n)) = false := by
    refine List.any_eq_false.mpr fun kv hk hd => ?_
    obtain ⟨x, hx, rfl⟩ := List.mem_map.mp hk
    have := ndK_inj (of_decide_eq_true hd)
    refine h (this ▸ ?_)
    exact (List.mem_zipIdx' hx).2 ▸ List.getElem_mem _
  unfold putK
  rw [e, if_neg Bool.false_ne_true]
  unfold numsOf
  rw [List.zipIdx_append, List.map_append]
  simp
theorem nums_len {ns : List Nd} : (numsOf ns).length = ns.length := by simp [numsOf]
end Zc
namespace Zc
open PySem L2
/-! ### a node is made -/
/-- s' is s with at most so many more nodes and results -/
structure Ext (s s' : SG) (n r : Nat) : Prop where
  a : s'.a = s.a
  ns : ∃ ms, s'.ns = s.ns ++ ms ∧ ms.length ≤ n
  rs : s'.rs.length ≤ s.rs.length + r
theorem Ext.refl (s : SG) : Ext s s 0 0 := ⟨rfl, ⟨[], (List.append_nil _).symm, Nat.le_refl _⟩, Nat.le_refl _⟩
theorem Ext.trans {s s' s2 : SG} {n r n' r' : Nat} (x : Ext s s' n r) (y : Ext s' s2 n' r') : Ext s s2 (n + n') (r + r') := by
  obtain ⟨m1, e1, l1⟩ := x.ns
  obtain ⟨m2, e2, l2⟩ := y.ns
  refine ⟨y.a.trans x.a, ⟨m1 ++ m2, by rw [e2, e1, List.append_assoc], by rw [List.length_append]; omega⟩, ?_⟩
  have := x.rs
  have := y.rs
  omega
theorem Ext.mono {s s' : SG} {n r n' r' : Nat} (x : Ext s s' n r) (h : n ≤ n') (h' : r ≤ r') : Ext s s' n' r' := by
  obtain ⟨m1, e1, l1⟩ := x.ns
  exact ⟨x.a, ⟨m1, e1, by omega⟩, by have := x.rs; omega⟩
theorem Ext.len {s s' : SG} {n r : Nat} (x : Ext s s' n r) : s.ns.length ≤ s'.ns.length ∧ s'.ns.length ≤ s.ns.length + n := by
  obtain ⟨m1, e1, l1⟩ := x.ns
  rw [e1, List.length_append]
  omega
theorem Ext.den {s s' : SG} {n r : Nat} {E : List Int} (x : Ext s s' n r) (k : s'.Ok E) {σ : Int → Bool} {i : Nat} (h : i < s.ns.length + 2) : den s'.ns i σ = den s.ns i σ := by
  obtain ⟨m1, e1, l1⟩ := x.ns
  have g := k.good
  rw [e1] at g ⊢
  exact den_app g i h
theorem Ext.node {s s' : SG} {n r : Nat} (x : Ext s s' n r) {i : Nat} (h : i < s.ns.length + 2) : node s'.ns i = node s.ns i := by
  obtain ⟨m1, e1, l1⟩ := x.ns
  rw [e1]
  exact node_app h
/-- the node's entry stands behind x -/
def Top (ns : List Nd) (x : Int) (i : Nat) : Prop := ∀ m, node ns i = some m → x < m.e
def p_make {R : Rs} {C : Addr} {E : List Int} (hs : HasStore R C E) : DSp R := fun ts g post => ∃ (s : SG) (e : Int) (w t : Nat), ts = [.raw (.ref s.a), .int e, .int (w : Int), .int (t : Int)] ∧ hs.sg g = some s ∧
  (s.Ok E ∧ e ∈ E ∧ w < s.ns.length + 2 ∧ t < s.ns.length + 2 ∧ Top s.ns e w ∧ Top s.ns e t ∧ s.ns.length + 10 < sizeLine) ∧
  ∀ (i : Nat) g' s', hs.sg g' = some s' → s'.Ok E → Ext s s' 1 0 → i < s'.ns.length + 2 → (∀ σ, den s'.ns i σ = if σ e then den s.ns t σ else den s.ns w σ) → post (.int (i : Int)) g'
section
variable {K : PySem.W.Frag} {R : Rs} {C : Addr} {E : List Int} {B : Bs R} {g : R.G} {es : List Ent} {nx bk ct : R.G → List Ent → Prop} {rt : T → R.G → Prop}
/-- key = (entry, without, there); if key not in self._numbers: ..; return self._numbers[key] -/
theorem wq_makeTail (hs : HasStore R C E) (cl : ClsS K C) {s : SG} {n : Nd} (hg : hs.sg g = some s) (e0 : es[0]? = some (.dat (.raw (.ref s.a)))) (e1 : es[1]? = some (.dat (.int n.e))) (e2 : es[2]? = some (.dat (.int (n.w : Int)))) (e3 : es[3]? = some (.dat (.int (n.t : Int)))) (h4 : 4 < es.length)
    (hn : n.e ∈ E ∧ n.w < s.ns.length + 2 ∧ n.t < s.ns.length + 2 ∧ n.w ≠ n.t ∧ Top s.ns n.e n.w ∧ Top s.ns n.e n.t ∧ s.ns.length + 10 < sizeLine)
    (hp : ∀ (i : Nat) g' s', hs.sg g' = some s' → Ext s s' 1 0 → s'.Ok E → node s'.ns i = some n → rt (.int (i : Int)) g') :
    wQ K R B (tSeq (tAsg (tTup (tCons (tVar 1) (tCons (tVar 2) (tCons (tVar 3) tNil)))) (gName 4))
      (tSeq (tIfS (tB (tDNotIn (tVar 4) (tFld K (tVar 0) "_numbers"))) (tSeq (sDPut (tFld K (tVar 0) "_numbers") (tVar 4) (tCB (rLenG K) (tCons (tFld K (tVar 0) "_nodes") tNil))) (tDrop (tBM K "list" rAppend (tFld K (tVar 0) "_nodes") (tCons (tVar 4) tNil)))) tNext)
        (tRet (tDGet (tFld K (tVar 0) "_numbers") (tVar 4))))) g es nx rt bk ct := fun F σ H ok D d => by
  obtain ⟨n1, n2, n3, n4, n5, n6, n7⟩ := hn
  obtain ⟨_, s0, _, rfl, r0⟩ := ok.ent 0 _ e0
  obtain ⟨_, s1, _, rfl, r1⟩ := ok.ent 1 _ e1
  obtain ⟨_, s2, _, rfl, r2⟩ := ok.ent 2 _ e2
  obtain ⟨_, s3, _, rfl, r3⟩ := ok.ent 3 _ e3
  cases r0
  cases r1
  cases r2
  cases r3
  have hσ : 4 < σ.length := by rw [ok.len]; exact h4
  refine ⟨_, s1, _, s2, _, s3, ⟨by show 3 ≤ sizeLine; decide, fun p hpn => ?_⟩⟩
  obtain ⟨tr, i1⟩ := Tr.new (o := ndH n) ok.i hpn
  have st := hs.res i1.res hg
  have hp1 : upd H p (ndH n) p = some (.tup ((ndK n).map kV)) := upd_same
  have o4 : (σ.set 4 (some (.ref p)))[4]? = some (some (.ref p)) := List.getElem?_set_self hσ
  have o0 : (σ.set 4 (some (V.ref p)))[0]? = some (some (.ref s.a)) := by
    rw [List.getElem?_set_ne (by decide)]
    exact s0
  have hv := nums_get (ns := s.ns) (n := n)
  refine ⟨_, o4, _, o0, s.a, C, s.dx, _, .ref s.c, rfl, st.ha, cl.cls, cl.numbers, rfl, s.c, _, rfl, DGet.t st.hc hp1, _, rfl, ?_⟩
  cases hi : s.ns.idxOf? n with
  | some i =>
    rw [hi] at hv
    rw [hv]
    refine ⟨_, o0, s.a, C, s.dx, _, .ref s.c, rfl, st.ha, cl.cls, cl.numbers, rfl, _, o4, s.c, _, rfl, hv ▸ DGet.t st.hc hp1, ?_⟩
    exact d.rt _ _ g _ _ tr.f i1 (ok.t.trans tr) (.int _) (hp (i + 2) g s hg ((Ext.refl s).mono (Nat.zero_le _) (Nat.le_refl _)) st.ok (node_of (idx_some hi)))
  | none =>
    rw [hi] at hv
    rw [hv]
    have hno := idx_none hi
    have lb : (V.non :: V.non :: s.ps.map V.ref).length = s.ns.length + 2 := by simp [st.ok.len]
    have bc : s.b ≠ s.c := fun z => by
      have := st.hb
      rw [z, st.hc] at this
      cases this
    have pb : p ≠ s.b := fun z => by
      have := st.hb
      rw [← z, upd_same] at this
      cases this
    have pc : p ≠ s.c := fun z => by
      have := st.hc
      rw [← z, upd_same] at this
      cases this
    have ab : s.a ≠ s.b := fun z => by
      have := st.ha
      rw [z, st.hb] at this
      cases this
    have ac : s.a ≠ s.c := fun z => by
      have := st.ha
      rw [z, st.hc] at this
      cases this
    have db : s.d ≠ s.b := fun z => by
      have := st.hd
      rw [z, st.hb] at this
      cases this
    have lenK : LenV K (.ref s.b) (upd H p (ndH n)) (s.ns.length + 2) := .inl ⟨_, Evl.sq_of st.hb, lb.symm⟩
    have hput : DPut (upd H p (ndH n)) s.c (.ref p) (.int ((s.ns.length + 2 : Nat) : Int)) (upd (upd H p (ndH n)) s.c (.dT (numsOf (s.ns ++ [n])))) := by
      have := DPut.t (v := .int ((s.ns.length + 2 : Nat) : Int)) st.hc hp1 (by rw [nums_len]; omega)
      rw [nums_put hno] at this
      exact this
    have a2 : upd (upd H p (ndH n)) s.c (.dT (numsOf (s.ns ++ [n]))) s.a = _ := (upd_ne ac).trans st.ha
    have b2 : upd (upd H p (ndH n)) s.c (.dT (numsOf (s.ns ++ [n]))) s.b = _ := (upd_ne bc).trans st.hb
    refine w_iteBT rfl ?_
    refine ⟨_, o0, s.a, C, s.dx, _, .ref s.b, rfl, st.ha, cl.cls, cl.nodes, rfl, _, _, rfl, lenK, _, o0, s.a, C, s.dx, _, .ref s.c, rfl, st.ha, cl.cls, cl.numbers, rfl, _, o4, s.c, _, rfl, hput, ?_⟩
    refine ⟨_, o0, s.a, C, s.dx, _, .ref s.b, rfl, a2, cl.cls, cl.nodes, rfl, .inl ⟨rfl, _, Evl.sq_of b2⟩, _, o4, s.b, _, .ref p, rfl, rfl, b2, by rw [lb]; omega, ?_⟩
    have a3 : upd (upd (upd H p (ndH n)) s.c (.dT (numsOf (s.ns ++ [n])))) s.b (.lst ((V.non :: V.non :: s.ps.map V.ref) ++ [.ref p])) s.a = _ := (upd_ne ab).trans a2
    have c3 : upd (upd (upd H p (ndH n)) s.c (.dT (numsOf (s.ns ++ [n])))) s.b (.lst ((V.non :: V.non :: s.ps.map V.ref) ++ [.ref p])) s.c = some (.dT (numsOf (s.ns ++ [n]))) := (upd_ne (Ne.symm bc)).trans upd_same
    have p3 : upd (upd (upd H p (ndH n)) s.c (.dT (numsOf (s.ns ++ [n])))) s.b (.lst ((V.non :: V.non :: s.ps.map V.ref) ++ [.ref p])) p = some (ndH n) := (upd_ne pb).trans ((upd_ne pc).trans upd_same)
    have hv3 : valV (numsOf (s.ns ++ [n])) (ndK n) = some (.int ((s.ns.length + 2 : Nat) : Int)) := by
      rw [nums_get, idx_last hno] <;> rfl
    refine ⟨_, o0, s.a, C, s.dx, _, .ref s.c, rfl, a3, cl.cls, cl.numbers, rfl, _, o4, s.c, _, rfl, hv3 ▸ DGet.t c3 p3, ?_⟩
    have good' : Good (s.ns ++ [n]) := st.ok.good.snoc n2 n3 n4 n5 n6 hno
    have sok : SG.Ok E { s with ns := s.ns ++ [n], ps := s.ps ++ [p] } := by
      refine ⟨good', fun m hm => ?_, fun x hx => ?_, by simp [st.ok.len]⟩
      · rcases List.mem_append.mp hm with hm | hm
        · exact st.ok.ent m hm
        · cases List.mem_singleton.mp hm
          exact n1
      · obtain ⟨x1, x2, x3, x4⟩ := st.ok.res x hx
        refine ⟨?_, ?_, ?_, fun σ => ?_⟩
        · show _ < (s.ns ++ [n]).length + 2
          simp
          omega
        · show _ < (s.ns ++ [n]).length + 2
          simp
          omega
        · show _ < (s.ns ++ [n]).length + 2
          simp
          omega
        · show den (s.ns ++ [n]) _ σ = x.1.op (den (s.ns ++ [n]) _ σ) (den (s.ns ++ [n]) _ σ)
          rw [den_app good' _ x1, den_app good' _ x2, den_app good' _ x3]
          exact x4 σ
    have pn : ∀ q, q ∈ s.ps → q ≠ p := fun q hq z => by
      have := (hs.res ok.i.res hg)
      obtain ⟨i, hi⟩ := List.getElem?_of_mem hq
      have hl := (List.getElem?_eq_some_iff.mp hi).1
      have hl2 : i < s.ns.length := by rw [← st.ok.len]; exact hl
      have := this.hp i q _ hi (List.getElem?_eq_getElem hl2)
      rw [z, hpn] at this
      cases this
    have st3 : storeAt C E { s with ns := s.ns ++ [n], ps := s.ps ++ [p] } (upd (upd (upd H p (ndH n)) s.c (.dT (numsOf (s.ns ++ [n])))) s.b (.lst ((V.non :: V.non :: s.ps.map V.ref) ++ [.ref p]))) := by
      refine ⟨sok, a3, ?_, ?_, c3, (upd_ne db).trans ((upd_ne (Ne.symm st.cd)).trans st.hd), fun i q m h1 h2 => ?_, st.cd⟩
      · exact Upds.al (W := fun _ => True) (.step (.step .refl trivial) trivial) st.hdx
      · show upd _ s.b _ s.b = _
        rw [upd_same]
        simp
      · have h1 : (s.ps ++ [p])[i]? = some q := h1
        have h2 : (s.ns ++ [n])[i]? = some m := h2
        by_cases hi : i < s.ps.length
        · rw [List.getElem?_append_left hi] at h1
          rw [List.getElem?_append_left (by rw [← st.ok.len]; exact hi)] at h2
          have hq := st.hp i q m h1 h2
          refine (upd_ne fun z => ?_).trans ((upd_ne fun z => ?_).trans hq)
          · rw [z, st.hb] at hq
            cases hq
          · rw [z, st.hc] at hq
            cases hq
        · have hl : i < (s.ps ++ [p]).length := (List.getElem?_eq_some_iff.mp h1).1
          have hl2 : i = s.ps.length := by simp at hl; omega
          subst hl2
          rw [List.getElem?_append_right (Nat.le_refl _)] at h1
          rw [st.ok.len, List.getElem?_append_right (Nat.le_refl _)] at h2
          simp at h1 h2
          subst h1 h2
          exact p3
    have up : Upds (fun b => s.P b ∨ H b = none) H (upd (upd (upd H p (ndH n)) s.c (.dT (numsOf (s.ns ++ [n])))) s.b (.lst ((V.non :: V.non :: s.ps.map V.ref) ++ [.ref p]))) :=
      .step (.step (.step .refl (.inr hpn)) (.inl (.inr (.inr (.inl (.inr (.inl rfl))))))) (.inl (.inr (.inr (.inl (.inl rfl)))))
    have rs3 := hs.put ok.i.res hg up st3 fun a ha => by
      rcases ha with h | h | h | h
      · exact .inl (.inl h)
      · exact .inl (.inr (.inl h))
      · exact .inl (.inr (.inr (.inl h)))
      · rcases List.mem_append.mp h with h | h
        · exact .inl (.inr (.inr (.inr h)))
        · cases List.mem_singleton.mp h
          exact .inr hpn
    have mm : ∀ a, R.M (hs.set g { s with ns := s.ns ++ [n], ps := s.ps ++ [p] }) a → R.M g a := fun a ha => by
      rcases hs.M'' ha with h | h
      · exact h
      · exact hs.M hg h
    have tr3 : Tr R g F H (hs.set g { s with ns := s.ns ++ [n], ps := s.ps ++ [p] }) (upd F p (ndH n)) (upd (upd (upd H p (ndH n)) s.c (.dT (numsOf (s.ns ++ [n])))) s.b (.lst ((V.non :: V.non :: s.ps.map V.ref) ++ [.ref p]))) := by
      refine ⟨tr.f, tr.nw, fun a o h m => ?_, fun a h => Upds.al up h, fun a h => ?_, fun a h => .inl (mm a h)⟩
      · refine (upd_ne fun (z : a = s.b) => m (by rw [z]; exact hs.M hg (.inl rfl))).trans ((upd_ne fun (z : a = s.c) => m (by rw [z]; exact hs.M hg (.inr (.inl rfl)))).trans (tr.kp a o h m))
      · rcases hs.P' h with h | h
        · exact .inl h
        · rcases h with h | h | h | h
          · exact .inl (hs.P hg (.inl h))
          · exact .inl (hs.P hg (.inr (.inl h)))
          · exact .inl (hs.P hg (.inr (.inr (.inl h))))
          · rcases List.mem_append.mp h with h | h
            · exact .inl (hs.P hg (.inr (.inr (.inr h))))
            · cases List.mem_singleton.mp h
              exact .inr hpn
    have i3 : R.I (hs.set g { s with ns := s.ns ++ [n], ps := s.ps ++ [p] }) (upd F p (ndH n)) (upd (upd (upd H p (ndH n)) s.c (.dT (numsOf (s.ns ++ [n])))) s.b (.lst ((V.non :: V.non :: s.ps.map V.ref) ++ [.ref p]))) := by
      refine ⟨fun a o h => ?_, fun a h => i1.fm a (mm a h), rs3⟩
      have nb : ∀ x, s.M x → a ≠ x := fun x hx z => by
        have := i1.fm x (hs.M hg hx)
        rw [← z, h] at this
        cases this
      exact (upd_ne (nb _ (.inl rfl))).trans ((upd_ne (nb _ (.inr (.inl rfl)))).trans (i1.ex a o h))
    refine d.rt _ _ _ _ _ tr.f i3 (ok.t.trans tr3) (.int _) (hp (s.ns.length + 2) _ _ (hs.sg_set _ _) ⟨rfl, ⟨[n], rfl, Nat.le_refl _⟩, Nat.le_refl _⟩ sok (node_of ?_))
    show (s.ns ++ [n])[s.ns.length]? = some n
    simp
end
end Zc
namespace Zc
open PySem L2
/-! ### known results -/
theorem Fo.str_inj {f f' : Fo} (h : f.str = f'.str) : f = f' := by
  cases f <;> cases f' <;> first | rfl | (exact absurd h (by decide +kernel))
theorem resK_inj {f f' : Fo} {a b a' b' : Nat} (h : resK f a b = resK f' a' b') : f = f' ∧ a = a' ∧ b = b' := by
  unfold resK at h
  injection h with h1 h2
  injection h2 with h2 h3
  injection h3 with h3 h4
  injection h1 with h1
  injection h2 with h2
  injection h3 with h3
  exact ⟨Fo.str_inj h1, Int.ofNat_inj.mp h2, Int.ofNat_inj.mp h3⟩
theorem Fo.comm (f : Fo) (a b : Bool) : f.op a b = f.op b a := by cases f <;> cases a <;> cases b <;> rfl
theorem res_get {rs : List (Fo × Nat × Nat × Nat)} {f : Fo} {a b : Nat} {v : V} (h : valV (resOf rs) (resK f a b) = some v) : ∃ c, (f, a, b, c) ∈ rs ∧ v = .int (c : Int) := by
  unfold valV at h
  obtain ⟨kv, h1, rfl⟩ := Option.map_eq_some_iff.mp h
  have hm := List.mem_of_find?_eq_some h1
  have hk0 := List.find?_some h1
  have hk : kv.1 = resK f a b := by simpa using hk0
  obtain ⟨⟨f', a', b', c⟩, hx, rfl⟩ := List.mem_map.mp hm
  obtain ⟨rfl, rfl, rfl⟩ := resK_inj hk
  exact ⟨c, hx, rfl⟩
theorem res_put (rs : List (Fo × Nat × Nat × Nat)) (f : Fo) (a b c : Nat) : ∃ rs', putK (resOf rs) (resK f a b) (.int (c : Int)) = resOf rs' ∧ (∀ x, x ∈ rs' → x ∈ rs ∨ x = (f, a, b, c)) ∧ rs'.length ≤ rs.length + 1 ∧ valV (resOf rs') (resK f a b) = some (.int (c : Int)) := by
  have vp : valV (putK (resOf rs) (resK f a b) (.int (c : Int))) (resK f a b) = some (.int (c : Int)) := by
    rw [valV_put, if_pos rfl]
  unfold putK at vp ⊢
  by_cases h : ((resOf rs).any fun kv => decide (kv.1 = resK f a b)) = true
  · rw [if_pos h] at vp ⊢
    have e : ((resOf rs).map fun kv => if kv.1 = resK f a b then (kv.1, V.int (c : Int)) else kv) = resOf (rs.map fun x => if x.1 = f ∧ x.2.1 = a ∧ x.2.2.1 = b then (x.1, x.2.1, x.2.2.1, c) else x) := by
      unfold resOf
      rw [List.map_map, List.map_map]
      refine List.map_congr_left fun x _ => ?_
      show (if resK x.1 x.2.1 x.2.2.1 = resK f a b then _ else _) = _
      by_cases q : x.1 = f ∧ x.2.1 = a ∧ x.2.2.1 = b
      · simp only [Function.comp]
        rw [if_pos q, if_pos (by rw [q.1, q.2.1, q.2.2])]
      · simp only [Function.comp]
        rw [if_neg q, if_neg fun z => q (resK_inj z)]
    rw [e] at vp ⊢
    refine ⟨_, rfl, fun x hx => ?_, by rw [List.length_map]; omega, vp⟩
    obtain ⟨y, hy, rfl⟩ := List.mem_map.mp hx
    split
    · rename_i q
      obtain ⟨rfl, rfl, rfl⟩ := q
      exact .inr rfl
    · exact .inl hy
  · rw [if_neg h] at vp ⊢
    have e : resOf rs ++ [(resK f a b, V.int (c : Int))] = resOf (rs ++ [(f, a, b, c)]) := by simp [resOf]
    rw [e] at vp ⊢
    refine ⟨_, rfl, fun x hx => ?_, by simp, vp⟩
    rcases List.mem_append.mp hx with hx | hx
    · exact .inl hx
    · exact .inr (List.mem_singleton.mp hx)
/-- the store alone is told anew, in its own places -/
theorem store_upd {R : Rs} {C : Addr} {E : List Int} (hs : HasStore R C E) {g : R.G} {F H H' : Hp} {s s' : SG} (i : R.I g F H) (hg : hs.sg g = some s) (up : Upds s.M H H') (st : storeAt C E s' H') (hP : ∀ a, s'.P a → s.P a) (hM : ∀ a, s'.M a → s.M a) :
    Tr R g F H (hs.set g s') F H' ∧ R.I (hs.set g s') F H' := by
  have up2 : Upds (fun b => s.P b ∨ H b = none) H H' := by
    exact up.wide fun b hb => .inl (.inr (.inr (.inl hb)))
  have mm : ∀ a, R.M (hs.set g s') a → R.M g a := fun a ha => by
    rcases hs.M'' ha with h | h
    · exact h
    · exact hs.M hg (hM a h)
  refine ⟨⟨Evl.Ex.refl _, fun _ h => .inl h, fun a o h m => ?_, fun a h => Upds.al up h, fun a h => ?_, fun a h => .inl (mm a h)⟩, ⟨fun a o h => ?_, fun a h => i.fm a (mm a h), hs.put i.res hg up2 st fun a h => .inl (hP a h)⟩⟩
  · exact (up.keep fun z => m (hs.M hg z)).trans h
  · rcases hs.P' h with h | h
    · exact .inl h
    · exact .inl (hs.P hg (hP a h))
  · refine (up.keep fun z => ?_).trans (i.ex a o h)
    have := i.fm a (hs.M hg z)
    rw [h] at this
    cases this
end Zc
namespace Zc
open PySem L2
theorem storeAt.res {C : Addr} {E : List Int} {s : SG} {H : Hp} (st : storeAt C E s H) {rs : List (Fo × Nat × Nat × Nat)} (h : ∀ x, x ∈ rs → ResOk s.ns x) : storeAt C E { s with rs := rs } (upd H s.d (.dT (resOf rs))) := by
  have ad : s.a ≠ s.d := fun z => by
    have := st.ha
    rw [z, st.hd] at this
    cases this
  have bd : s.b ≠ s.d := fun z => by
    have := st.hb
    rw [z, st.hd] at this
    cases this
  refine ⟨⟨st.ok.good, st.ok.ent, h, st.ok.len⟩, (upd_ne ad).trans st.ha, ?_, (upd_ne bd).trans st.hb, (upd_ne st.cd).trans st.hc, upd_same, fun i q m h1 h2 => ?_, st.cd⟩
  · exact Upds.al (W := fun _ => True) (.step .refl trivial) st.hdx
  · have hq := st.hp i q m h1 h2
    refine (upd_ne fun z => ?_).trans hq
    rw [z, st.hd] at hq
    cases hq
section
variable {K : PySem.W.Frag} {R : Rs} {C : Addr} {E : List Int} {B : Bs R} {g : R.G} {es : List Ent} {nx bk ct : R.G → List Ent → Prop} {rt : T → R.G → Prop}
theorem min_nat (a b : Nat) : (if (b : Int) < (a : Int) then (b : Int) else (a : Int)) = ((if b < a then b else a : Nat) : Int) := by split <;> split <;> omega
theorem max_nat (a b : Nat) : (if (b : Int) > (a : Int) then (b : Int) else (a : Int)) = ((if b > a then b else a : Nat) : Int) := by split <;> split <;> omega
/-- key = (form, min, max); if key not in self._results: self._results[key] = self._split(form, first, second); return self._results[key] -/
theorem wq_combTail (hs : HasStore R C E) (cl : ClsS K C) {s : SG} {f : Fo} {a b n r : Nat} {pre : DSp R} (hg : hs.sg g = some s) (e0 : es[0]? = some (.dat (.raw (.ref s.a)))) (e1 : es[1]? = some (.dat (.str f.str))) (e2 : es[2]? = some (.dat (.int (a : Int)))) (e3 : es[3]? = some (.dat (.int (b : Int)))) (h6 : 6 < es.length)
    (ha : a < s.ns.length + 2) (hb : b < s.ns.length + 2) (hl : s.rs.length + r < sizeLine)
    (hspl : ∀ g2 (post2 : T → R.G → Prop), hs.sg g2 = some s → (∀ (c : Nat) g' s', hs.sg g' = some s' → s'.Ok E → Ext s s' n r → c < s'.ns.length + 2 → (∀ σ, den s'.ns c σ = f.op (den s.ns a σ) (den s.ns b σ)) → post2 (.int (c : Int)) g') →
      pre [.raw (.ref s.a), .str f.str, .int (a : Int), .int (b : Int)] g2 post2)
    (hp : ∀ (c : Nat) g' s', hs.sg g' = some s' → s'.Ok E → Ext s s' n (r + 1) → c < s'.ns.length + 2 → (∀ σ, den s'.ns c σ = f.op (den s.ns a σ) (den s.ns b σ)) → rt (.int (c : Int)) g') :
    wQ K R B (tSeq (tAsg (tTup (tCons (tVar 1) (tCons (tCB (fun xs H Q => ∃ i j, xs = [V.int i, V.int j] ∧ Q (V.int (if j < i then j else i)) H) (tCons (tVar 2) (tCons (tVar 3) tNil)))
        (tCons (tCB (fun xs H Q => ∃ i j, xs = [V.int i, V.int j] ∧ Q (V.int (if j > i then j else i)) H) (tCons (tVar 2) (tCons (tVar 3) tNil))) tNil)))) (gName 6))
      (tSeq (tIfS (tB (tDNotIn (tVar 6) (tFld K (tVar 0) "_results"))) (sDPut (tFld K (tVar 0) "_results") (tVar 6) (tMeth C "_split" (spD K R [false, false, false, false] pre) [] E0 (tVar 0) (tCons (tVar 1) (tCons (tVar 2) (tCons (tVar 3) tNil))))) tNext)
        (tRet (tDGet (tFld K (tVar 0) "_results") (tVar 6))))) g es nx rt bk ct := fun F σ H ok D d => by
  obtain ⟨_, s0, _, rfl, r0⟩ := ok.ent 0 _ e0
  obtain ⟨_, s1, _, rfl, r1⟩ := ok.ent 1 _ e1
  obtain ⟨_, s2, _, rfl, r2⟩ := ok.ent 2 _ e2
  obtain ⟨_, s3, _, rfl, r3⟩ := ok.ent 3 _ e3
  cases r0
  cases r1
  cases r2
  cases r3
  have hσ : 6 < σ.length := by rw [ok.len]; exact h6
  refine ⟨_, s1, _, s2, _, s3, _, _, rfl, _, s2, _, s3, _, _, rfl, ⟨by show 3 ≤ sizeLine; decide, fun p hpn => ?_⟩⟩
  rw [min_nat, max_nat]
  generalize hx : (if b < a then b else a) = x
  generalize hy : (if b > a then b else a) = y
  have hxy : (x = a ∧ y = b) ∨ (x = b ∧ y = a) := by
    subst hx hy
    split <;> split <;> omega
  obtain ⟨tr, i1⟩ := Tr.new (o := .tup ((resK f x y).map kV)) ok.i hpn
  have st := hs.res i1.res hg
  have hp1 : upd H p (.tup ((resK f x y).map kV)) p = some (.tup ((resK f x y).map kV)) := upd_same
  have n4 : ∀ (j : Nat), j ≠ 6 → (σ.set 6 (some (V.ref p)))[j]? = σ[j]? := fun j hj => List.getElem?_set_ne (fun z => hj z.symm)
  have o6 : (σ.set 6 (some (.ref p)))[6]? = some (some (.ref p)) := List.getElem?_set_self hσ
  have o0 : (σ.set 6 (some (V.ref p)))[0]? = some (some (.ref s.a)) := (n4 0 (by decide)).trans s0
  have o1 := (n4 1 (by decide)).trans s1
  have o2 := (n4 2 (by decide)).trans s2
  have o3 := (n4 3 (by decide)).trans s3
  have opx : ∀ (ns : List Nd) σ, f.op (den ns x σ) (den ns y σ) = f.op (den ns a σ) (den ns b σ) := fun ns σ => by
    rcases hxy with ⟨rfl, rfl⟩ | ⟨rfl, rfl⟩
    · rfl
    · exact f.comm _ _
  show tSeq _ _ _ _ (upd H p (.tup ((resK f x y).map kV)))
  refine ⟨_, o6, _, o0, s.a, C, s.dx, _, .ref s.d, rfl, st.ha, cl.cls, cl.results, rfl, s.d, _, rfl, DGet.t st.hd hp1, _, rfl, ?_⟩
  cases hv : valV (resOf s.rs) (resK f x y) with
  | some v =>
    obtain ⟨c, hm, rfl⟩ := res_get hv
    refine ⟨_, o0, s.a, C, s.dx, _, .ref s.d, rfl, st.ha, cl.cls, cl.results, rfl, _, o6, s.d, _, rfl, hv ▸ DGet.t st.hd hp1, ?_⟩
    obtain ⟨_, _, x3, x4⟩ := st.ok.res _ hm
    exact d.rt _ _ g _ _ tr.f i1 (ok.t.trans tr) (.int _) (hp c g s hg st.ok ((Ext.refl s).mono (Nat.zero_le _) (Nat.zero_le _)) x3 fun σ => (x4 σ).trans (opx _ σ))
  | none =>
    refine w_iteBT rfl ?_
    refine ⟨_, o0, s.a, s.dx, _, rfl, st.ha, rfl, _, o1, _, o2, _, o3, ?_⟩
    refine ⟨_, [.raw (.ref s.a), .str f.str, .int (a : Int), .int (b : Int)], g, _, i1, .dat (.raw _) (.dat (.str _) (.dat (.int _) (.dat (.int _) .nil))), hspl g (fun t g' => ∃ (c : Nat) (s' : SG), t = .int (c : Int) ∧ hs.sg g' = some s' ∧ s'.Ok E ∧ Ext s s' n r ∧ c < s'.ns.length + 2 ∧ ∀ σ, den s'.ns c σ = f.op (den s.ns a σ) (den s.ns b σ)) hg (fun c g' s' h1 h2 h3 h4 h5 => ⟨c, s', rfl, h1, h2, h3, h4, h5⟩), ?_⟩
    rintro v t g2 F2 H2 tr2 i2 rep ⟨c, s2, rfl, hg2, ok2, ex2, hc, hd⟩
    cases rep
    have st2 := hs.res i2.res hg2
    have ea := ex2.a
    have hp2 : H2 p = some (.tup ((resK f x y).map kV)) := i2.ex _ _ (tr2.f _ _ upd_same)
    obtain ⟨rs', q1, q2, q3, q4⟩ := res_put s2.rs f x y c
    have hput : DPut H2 s2.d (.ref p) (.int (c : Int)) (upd H2 s2.d (.dT (resOf rs'))) := by
      have := DPut.t (v := .int (c : Int)) st2.hd hp2 (by
        have := ex2.rs
        simp [resOf]
        omega)
      rw [q1] at this
      exact this
    have lx : x < s2.ns.length + 2 ∧ y < s2.ns.length + 2 := by
      have := ex2.len
      rcases hxy with ⟨rfl, rfl⟩ | ⟨rfl, rfl⟩ <;> omega
    have rok : ∀ z, z ∈ rs' → ResOk s2.ns z := fun z hz => by
      rcases q2 z hz with h | rfl
      · exact st2.ok.res z h
      · refine ⟨lx.1, lx.2, hc, fun σ => ?_⟩
        show den s2.ns c σ = f.op (den s2.ns x σ) (den s2.ns y σ)
        rw [opx, hd σ, ex2.den ok2 ha, ex2.den ok2 hb]
    have st3 := st2.res rok
    obtain ⟨tr3, i3⟩ := store_upd hs (s' := { s2 with rs := rs' }) i2 hg2 (.step .refl (.inr (.inr rfl))) st3 (fun _ h => h) (fun _ h => h)
    refine ⟨_, o0, s2.a, C, s2.dx, _, .ref s2.d, by rw [ea], st2.ha, cl.cls, cl.results, rfl, _, o6, s2.d, _, rfl, hput, ?_⟩
    have hp3 : upd H2 s2.d (.dT (resOf rs')) p = some (.tup ((resK f x y).map kV)) := (upd_ne fun z => by
      rw [z, st2.hd] at hp2
      cases hp2).trans hp2
    refine ⟨_, o0, s2.a, C, s2.dx, _, .ref s2.d, by rw [ea], st3.ha, cl.cls, cl.results, rfl, _, o6, s2.d, _, rfl, q4 ▸ DGet.t st3.hd hp3, ?_⟩
    refine d.rt _ _ _ _ _ (tr.f.trans (tr2.f.trans tr3.f)) i3 (ok.t.trans (tr.trans (tr2.trans tr3))) (.int _) (hp c _ _ (hs.sg_set _ _) st3.ok ⟨ea, ex2.ns, ?_⟩ hc hd)
    have := ex2.rs
    show rs'.length ≤ _
    omega
end
end Zc
namespace Zc
open PySem L2
/-! ### the leaf functions -/
def Fo.leaf : Fo → Nat → Nat → Option Nat
  | .and, a, b => if a = 0 ∨ b = 0 then some 0 else if a = 1 then some b else if b = 1 ∨ a = b then some a else none
  | .or, a, b => if a = 1 ∨ b = 1 then some 1 else if a = 0 then some b else if b = 0 ∨ a = b then some a else none
  | .dif, a, b => if a = b then some 0 else if a = 0 then some b else if b = 0 then some a else none
def optT : Option Nat → T
  | some c => .int (c : Int)
  | none => .non
def p_leaf (R : Rs) (f : Fo) : DSp R := fun ts g post => ∃ a b : Nat, ts = [.int (a : Int), .int (b : Int)] ∧ post (optT (f.leaf a b)) g
end Zc
/-! Zn: the leaf functions by their dict; what _combined and _split promise. -/
namespace Zc
open PySem L2
theorem FunD.names {K : PySem.W.Frag} {x x' q q' : Str} {p p' : Arguments} {b b' : List Stmt} {sc sc' : Scope} {d d' : List V} {ks ks' : List (Str × V)} {f : Addr} {fd fd' : FuncData} (F : FunD K x q p b sc d ks f fd) (F' : FunD K x' q' p' b' sc' d' ks' f fd') : x = x' := by
  obtain ⟨_, _, _, _, _, _, _, _, _, _, rfl, l1, _⟩ := F.ex
  obtain ⟨_, _, _, _, _, _, _, _, _, _, rfl, l2, _⟩ := F'.ex
  rw [l1] at l2
  injection l2 with l2
  injection l2 with _ _ l2 _
  injection l2 with l2
  have := congrArg FuncData.name l2
  exact this
def Fo.name : Fo → Str
  | .and => "and_leaf" | .or => "or_leaf" | .dif => "differ_leaf"
/-- LEAVES, as the top has left it -/
structure Leaves (w : World) (K : PySem.W.Frag) (mg : Str → Option Value) (aL : Addr) (fa : Fo → Addr) : Prop where
  gL : mg "LEAVES" = some (.ref aL)
  get : ∀ f, KDct K w aL f.str (.ref (fa f))
  inj : ∀ f f', fa f = fa f' → f = f'
  nm : ∀ f : Fo, mg f.name = some (.ref (fa f))
noncomputable def leafS (K : PySem.W.Frag) (R : Rs) (fa : Fo → Addr) : Addr → Option Sp := fun x =>
  if x = fa .and then some (spD K R [false, false] (p_leaf R .and)) else if x = fa .or then some (spD K R [false, false] (p_leaf R .or)) else if x = fa .dif then some (spD K R [false, false] (p_leaf R .dif)) else none
section
variable {P : Program} {w : World} {K : PySem.W.Frag} {mg : Str → Option Value} {base : Heap} {R : Rs} {aL : Addr} {fa : Fo → Addr}
theorem leafS_get (L : Leaves w K mg aL fa) (f : Fo) : leafS K R fa (fa f) = some (spD K R [false, false] (p_leaf R f)) := by
  unfold leafS
  have h1 : fa .or ≠ fa .and := fun z => by cases L.inj _ _ z
  have h2 : fa .dif ≠ fa .and := fun z => by cases L.inj _ _ z
  have h3 : fa .dif ≠ fa .or := fun z => by cases L.inj _ _ z
  cases f
  · rw [if_pos rfl]
  · rw [if_neg h1, if_pos rfl]
  · rw [if_neg h2, if_neg h3, if_pos rfl]
theorem held_of {k : Nat} {x : Str} {ps : List Str} {sp : Sp} {a : Addr} (C : Cal P w K mg base k x ps sp) (h : mg x = some (.ref a)) : Held P w K mg base k a sp := by
  obtain ⟨f, fd, F, hm, kp, b⟩ := C.ex
  rw [h] at hm
  cases hm
  exact ⟨fd, ps, F, kp, b⟩
theorem leaf_held (L : Leaves w K mg aL fa) (C : ∀ f : Fo, Cal P w K mg base 1 f.name ["first", "second"] (spD K R [false, false] (p_leaf R f))) : ∀ x sp, leafS K R fa x = some sp → Held P w K mg base 1 x sp := by
  intro x sp h
  unfold leafS at h
  split at h
  · rename_i e
    cases h
    rw [e]
    exact held_of (C .and) (L.nm .and)
  · split at h
    · rename_i e
      cases h
      rw [e]
      exact held_of (C .or) (L.nm .or)
    · split at h
      · rename_i e
        cases h
        rw [e]
        exact held_of (C .dif) (L.nm .dif)
      · cases h
end
theorem ixDK {X : Cx} {K : PySem.W.Frag} {w : World} (h : X.K = K := by rfl) (hw : X.w = w := by rfl) : IxR X (rIxD K w) := h ▸ hw ▸ ix_kdict
theorem fldK {X : Cx} {K : PySem.W.Frag} {e : Expr} {f : Str} {pos : Pos} {ta : TE} (he : PE X e ta) (hb : attributeBase e f X.env (eval e X.env) = eval e X.env := by rfl) (h : X.K = K := by rfl) : PE X (.Attribute e f pos) (tFld K ta f) := h ▸ pe_fld he hb
section
variable {K : PySem.W.Frag} {w : World} {R : Rs} {B : Bs R} {g : R.G} {es : List Ent} {te : TE} {post : T → R.G → List Ent → Prop} {ms : List Bool}
theorem we_ixD {aL : Addr} (h : wE K R B te g es fun x g1 es1 => ∃ z v, x = .str z ∧ KDct K w aL z v ∧ post (.raw v) g1 es1) : wE K R B (tOp (rIxD K w) (tC (.ref aL)) te) g es post := fun F σ H ok Q q => by
  refine h F σ H ok _ fun vx x g1 es1 F1 H1 l1 ok1 rx h1 => ?_
  obtain ⟨z, v, rfl, kd, h1⟩ := h1
  cases rx
  exact ⟨aL, z, v, rfl, rfl, kd, q _ _ g1 es1 F1 H1 l1 ok1 (.raw _) h1⟩
theorem we_callA {i : Nat} {x : Addr} {S : Addr → Option Sp} {pre : DSp R} {t : TA} (e : es[i]? = some (.dat (.raw (.ref x)))) (hS : S x = some (spD K R ms pre)) (h : wAm K R B ms t g es fun ts g1 es1 => pre ts g1 fun z g2 => post z g2 es1) : wE K R B (tCallA i S t) g es post := fun F σ H ok Q q => by
  obtain ⟨_, s1, _, rfl, r1⟩ := ok.ent i _ e
  cases r1
  refine ⟨x, _, s1, hS, ?_⟩
  refine h F σ H ok _ fun vs ts g1 es1 F1 H1 l1 ok1 rs h1 => ?_
  exact ⟨F1, ts, g1, _, ok1.i, rs, h1, fun v t g2 F2 H2 tr i r p => q v t g2 es1 F2 H2 (l1.trans (.of tr)) (ok1.step tr i) r p⟩
end
/-! ### ranks -/
/-- how many entries stand at the node's entry or behind -/
def rank (E : List Int) (ns : List Nd) (i : Nat) : Nat := match node ns i with
  | none => 0
  | some n => (E.filter fun x => decide (n.e ≤ x)).length
/-- the result of an operation, r entries deep at most -/
def p_comb {R : Rs} {C : Addr} {E : List Int} (hs : HasStore R C E) (r : Nat) : DSp R := fun ts g post => ∃ (s : SG) (f : Fo) (a b : Nat), ts = [.raw (.ref s.a), .str f.str, .int (a : Int), .int (b : Int)] ∧ hs.sg g = some s ∧
  (s.Ok E ∧ a < s.ns.length + 2 ∧ b < s.ns.length + 2 ∧ rank E s.ns a ≤ r ∧ rank E s.ns b ≤ r ∧ s.ns.length + 2 ^ r + 10 < sizeLine ∧ s.rs.length + 2 ^ r + 10 < sizeLine) ∧
  ∀ (c : Nat) g' s', hs.sg g' = some s' → s'.Ok E → Ext s s' (2 ^ r - 1) (2 ^ r - 1) → c < s'.ns.length + 2 → (∀ σ, den s'.ns c σ = f.op (den s.ns a σ) (den s.ns b σ)) → post (.int (c : Int)) g'
/-- the same where no leaf function knows it: the results' dict is left to the caller -/
def p_split {R : Rs} {C : Addr} {E : List Int} (hs : HasStore R C E) (r : Nat) : DSp R := fun ts g post => ∃ (s : SG) (f : Fo) (a b : Nat), ts = [.raw (.ref s.a), .str f.str, .int (a : Int), .int (b : Int)] ∧ hs.sg g = some s ∧
  (s.Ok E ∧ a < s.ns.length + 2 ∧ b < s.ns.length + 2 ∧ rank E s.ns a ≤ r ∧ rank E s.ns b ≤ r ∧ s.ns.length + 2 ^ r + 10 < sizeLine ∧ s.rs.length + 2 ^ r + 10 < sizeLine ∧ f.leaf a b = none) ∧
  ∀ (c : Nat) g' s', hs.sg g' = some s' → s'.Ok E → Ext s s' (2 ^ r - 1) (2 ^ r - 2) → c < s'.ns.length + 2 → (∀ σ, den s'.ns c σ = f.op (den s.ns a σ) (den s.ns b σ)) → post (.int (c : Int)) g'
theorem Fo.leaf_den {f : Fo} {a b c : Nat} {ns : List Nd} (h : f.leaf a b = some c) (σ : Int → Bool) : den ns c σ = f.op (den ns a σ) (den ns b σ) := by
  cases f <;> dsimp only [Fo.leaf] at h <;> dsimp only [Fo.op]
  all_goals (repeat' split at h)
  all_goals first
    | (cases h; done)
    | (cases h; rename_i q; (try (rcases q with rfl | rfl)); (try subst q); simp [den_0, den_1])
    | skip
  all_goals (cases den ns a σ <;> simp [den_0, den_1])
theorem Fo.leaf_lt {f : Fo} {a b c n : Nat} (h : f.leaf a b = some c) (ha : a < n + 2) (hb : b < n + 2) : c < n + 2 := by
  cases f <;> dsimp only [Fo.leaf] at h
  all_goals (repeat' split at h)
  all_goals first
    | (cases h; omega)
    | (cases h; done)
theorem rank_pos {E : List Int} {s : SG} (k : s.Ok E) {i : Nat} (h2 : 2 ≤ i) (h : i < s.ns.length + 2) : 1 ≤ rank E s.ns i := by
  obtain ⟨n, hn⟩ := node_some h2 h
  have hm := List.mem_of_getElem? (node_lt hn).2.2
  unfold rank
  rw [hn]
  exact List.length_pos_of_mem (List.mem_filter.mpr ⟨k.ent n hm, decide_eq_true (Int.le_refl _)⟩)
theorem Fo.leaf_none {f : Fo} {a b : Nat} (h : f.leaf a b = none) : 2 ≤ a ∨ 2 ≤ b := by
  cases f <;> dsimp only [Fo.leaf] at h
  all_goals (repeat' split at h)
  all_goals first
    | (cases h; done)
    | omega
end Zc
/-! Zo: a node is read; what _split does, in plain Lean. -/
namespace Zc
open PySem L2
theorem filter_le {α : Type} {p q : α → Bool} (h : ∀ x, p x = true → q x = true) : ∀ xs : List α, (xs.filter p).length ≤ (xs.filter q).length
  | [] => Nat.le_refl _
  | x :: xs => by
    have ih := filter_le h xs
    cases hp : p x with
    | true =>
      rw [List.filter_cons_of_pos hp, List.filter_cons_of_pos (h x hp)]
      exact Nat.succ_le_succ ih
    | false =>
      rw [List.filter_cons_of_neg (by rw [hp]; exact Bool.false_ne_true)]
      cases hq : q x with
      | true =>
        rw [List.filter_cons_of_pos hq]
        exact Nat.le_succ_of_le ih
      | false =>
        rw [List.filter_cons_of_neg (by rw [hq]; exact Bool.false_ne_true)]
        exact ih
theorem filter_lt {α : Type} {p q : α → Bool} (h : ∀ x, p x = true → q x = true) : ∀ (xs : List α) (y : α), y ∈ xs → q y = true → p y = false → (xs.filter p).length < (xs.filter q).length
  | x :: xs, y, hy, hq, hp => by
    by_cases e : y = x
    · subst e
      rw [List.filter_cons_of_pos hq, List.filter_cons_of_neg (by rw [hp]; exact Bool.false_ne_true)]
      exact Nat.lt_succ_of_le (filter_le h xs)
    · have hy2 : y ∈ xs := (List.mem_cons.mp hy).resolve_left e
      have ih := filter_lt h xs y hy2 hq hp
      cases px : p x with
      | true =>
        rw [List.filter_cons_of_pos px, List.filter_cons_of_pos (h x px)]
        exact Nat.succ_lt_succ ih
      | false =>
        rw [List.filter_cons_of_neg (by rw [px]; exact Bool.false_ne_true)]
        cases qx : q x with
        | true =>
          rw [List.filter_cons_of_pos qx]
          exact Nat.lt_succ_of_lt ih
        | false =>
          rw [List.filter_cons_of_neg (by rw [qx]; exact Bool.false_ne_true)]
          exact ih
theorem rank_top {E : List Int} {s : SG} (k : s.Ok E) {a c : Nat} {n : Nd} (h : node s.ns a = some n) (t : Top s.ns n.e c) : rank E s.ns c + 1 ≤ rank E s.ns a := by
  have hm := k.ent n (List.mem_of_getElem? (node_lt h).2.2)
  unfold rank
  rw [h]
  cases hc : node s.ns c with
  | none =>
    show 0 + 1 ≤ _
    exact List.length_pos_of_mem (List.mem_filter.mpr ⟨hm, decide_eq_true (Int.le_refl _)⟩)
  | some m =>
    have l := t m hc
    exact filter_lt (fun x hx => decide_eq_true (by have := of_decide_eq_true hx; omega)) E n.e hm (decide_eq_true (Int.le_refl _)) (decide_eq_false (by omega))
theorem rank_ext {E : List Int} {s s' : SG} {n r : Nat} (x : Ext s s' n r) {i : Nat} (h : i < s.ns.length + 2) : rank E s'.ns i = rank E s.ns i := by
  unfold rank
  rw [x.node h]
theorem Top.ext {s s' : SG} {n r : Nat} (x : Ext s s' n r) {i : Nat} {y : Int} (h : i < s.ns.length + 2) (t : Top s.ns y i) : Top s'.ns y i := fun m hm => t m (by rw [← x.node h]; exact hm)
theorem Good.topw {ns : List Nd} (g : Good ns) {i : Nat} {n : Nd} (h : node ns i = some n) : Top ns n.e n.w := fun m hm => (g.kids h).2.2.2.1 m hm
theorem Good.topt {ns : List Nd} (g : Good ns) {i : Nat} {n : Nd} (h : node ns i = some n) : Top ns n.e n.t := fun m hm => (g.kids h).2.2.2.2 m hm
/-- what does not see the entries up to x stands behind x -/
theorem top_sem {ns : List Nd} (g : Good ns) {x : Int} {c : Nat} (hc : c < ns.length + 2) (h : ∀ y, y ≤ x → ∀ σ b, den ns c (put σ y b) = den ns c σ) : Top ns x c := fun m hm => by
  rcases Int.lt_or_le x m.e with l | l
  · exact l
  · obtain ⟨k1, k2, k3, _⟩ := g.kids hm
    refine (k3 (canon_eq g (by omega) (by omega) fun σ => ?_)).elim
    rw [← den_w g hm σ, ← den_t g hm σ, h _ l, h _ l]
theorem den_top_put {ns : List Nd} (g : Good ns) {x y : Int} {c : Nat} (hc : c < ns.length + 2) (t : Top ns x c) (hy : y ≤ x) (σ : Int → Bool) (b : Bool) : den ns c (put σ y b) = den ns c σ :=
  den_put g hc fun m hm => by have := t m hm; omega
theorem Fo.leaf_comm {f : Fo} {a b : Nat} (h : f.leaf a b = none) : f.leaf b a = none := by
  cases f <;> dsimp only [Fo.leaf] at h ⊢
  all_goals (repeat' split at h)
  all_goals (repeat' split)
  all_goals first
    | rfl
    | (cases h; done)
    | (exfalso; omega)
theorem node_small {ns : List Nd} {i : Nat} (h : i < 2) : node ns i = none := if_pos h
def nodeT (ns : List Nd) (i : Nat) : T := match node ns i with
  | none => .non
  | some n => ndT n
section
variable {K : PySem.W.Frag} {R : Rs} {C : Addr} {E : List Int} {B : Bs R} {g : R.G} {es : List Ent} {te : TE} {post : T → R.G → List Ent → Prop}
/-- self._nodes[i] -/
theorem we_nodeIx (hs : HasStore R C E) (cl : ClsS K C) {s : SG} (hg : hs.sg g = some s) (e0 : es[0]? = some (.dat (.raw (.ref s.a)))) (h : wE K R B te g es fun y g1 es1 => ∃ i : Nat, g1 = g ∧ y = .int (i : Int) ∧ i < s.ns.length + 2 ∧ post (nodeT s.ns i) g es1) :
    wE K R B (tOp (rIx K) (tFld K (tVar 0) "_nodes") te) g es post := fun F σ H ok Q q => by
  obtain ⟨_, s0, _, rfl, r0⟩ := ok.ent 0 _ e0
  cases r0
  have st0 := hs.res ok.i.res hg
  refine ⟨_, s0, s.a, C, s.dx, _, .ref s.b, rfl, st0.ha, cl.cls, cl.nodes, rfl, ?_⟩
  refine h F σ H ok _ fun vy y g1 es1 F1 H1 l1 ok1 ry h1 => ?_
  obtain ⟨i, rfl, rfl, hi, hp⟩ := h1
  cases ry
  have st := hs.res ok1.i.res hg
  have lenx : (V.non :: V.non :: s.ps.map V.ref).length = s.ns.length + 2 := by simp [st.ok.len]
  have atx : ∀ v, (V.non :: V.non :: s.ps.map V.ref)[i]? = some v → atI (V.non :: V.non :: s.ps.map V.ref) (i : Int) = some v := fun v hv => by
    have e : ixN (V.non :: V.non :: s.ps.map V.ref).length (i : Int) = some i := by
      rw [lenx]
      unfold ixN
      rw [if_pos (Int.natCast_nonneg i), if_pos (by omega)]
      simp
    unfold atI
    rw [e]
    exact hv
  cases hn : node s.ns i with
  | none =>
    have i2 : i < 2 := Nat.lt_of_not_le fun c => by
      obtain ⟨n, q⟩ := node_some c hi
      rw [hn] at q
      cases q
    refine .inl ⟨s.b, _, i, .non, rfl, rfl, Evl.sq_of st.hb, atx _ ?_, ?_⟩
    · rcases (show i = 0 ∨ i = 1 by omega) with rfl | rfl <;> rfl
    · refine q _ _ _ es1 F1 H1 l1 ok1 .non ?_
      unfold nodeT at hp
      rw [hn] at hp
      exact hp
  | some n =>
    obtain ⟨n1, n2, n3⟩ := node_lt hn
    have hps : i - 2 < s.ps.length := by rw [st.ok.len]; omega
    have hpe : s.ps[i - 2]? = some s.ps[i - 2] := List.getElem?_eq_getElem hps
    have hH := st.hp (i - 2) _ n hpe n3
    generalize s.ps[i - 2] = p at hpe hH
    have pP : s.P p := .inr (.inr (.inr (List.mem_of_getElem? hpe)))
    have pM : ¬ R.M g1 p := fun z => by
      rcases hs.M' ok1.i.res hg pP z with e | e | e
      · rw [e, st.hb] at hH
        cases hH
      · rw [e, st.hc] at hH
        cases hH
      · rw [e, st.hd] at hH
        cases hH
    have exF : Ex F1 (upd F1 p (ndH n)) := fun a o ha => by
      by_cases e : a = p
      · subst e
        have := ok1.i.ex _ _ ha
        rw [hH] at this
        cases this
        exact upd_same
      · rw [upd_ne e]
        exact ha
    have tr : Tr R g1 F1 H1 g1 (upd F1 p (ndH n)) H1 := ⟨exF, fun a ha => by
      by_cases e : a = p
      · subst e
        exact .inr (.inr (hs.P hg pP))
      · rw [upd_ne e] at ha
        exact .inl ha, fun _ _ h _ => h, fun _ h => h, fun _ h => .inl h, fun _ h => .inl h⟩
    have i2 : R.I g1 (upd F1 p (ndH n)) H1 := ⟨fun a o ha => by
      by_cases e : a = p
      · subst e
        rw [upd_same] at ha
        cases ha
        exact hH
      · rw [upd_ne e] at ha
        exact ok1.i.ex _ _ ha, fun a ha => by
      rw [upd_ne fun e => pM (by rw [← e]; exact ha)]
      exact ok1.i.fm a ha, ok1.i.res⟩
    refine .inl ⟨s.b, _, i, .ref p, rfl, rfl, Evl.sq_of st.hb, atx _ ?_, ?_⟩
    · obtain ⟨j, rfl⟩ : ∃ j, i = j + 2 := ⟨i - 2, by omega⟩
      rw [Nat.add_sub_cancel] at hpe
      show (s.ps.map V.ref)[j]? = _
      rw [List.getElem?_map, hpe] <;> rfl
    · refine q _ _ _ es1 _ H1 (l1.trans (.of tr)) (ok1.step tr i2) (.tup (Evl.st_of upd_same) (.cons (.int _) (.cons (.int _) (.cons (.int _) .nil)))) ?_
      unfold nodeT at hp
      rw [hn] at hp
      exact hp
end
/-- _split where the first one has the lower entry -/
def p_split0 {R : Rs} {C : Addr} {E : List Int} (hs : HasStore R C E) (r : Nat) : DSp R := fun ts g post => ∃ (s : SG) (f : Fo) (a b : Nat) (n : Nd), ts = [.raw (.ref s.a), .str f.str, .int (a : Int), .int (b : Int)] ∧ hs.sg g = some s ∧
  (s.Ok E ∧ a < s.ns.length + 2 ∧ b < s.ns.length + 2 ∧ rank E s.ns a ≤ r + 1 ∧ s.ns.length + 2 ^ (r + 1) + 10 < sizeLine ∧ s.rs.length + 2 ^ (r + 1) + 10 < sizeLine ∧ node s.ns a = some n ∧ ∀ m, node s.ns b = some m → n.e ≤ m.e) ∧
  ∀ (c : Nat) g' s', hs.sg g' = some s' → s'.Ok E → Ext s s' (2 ^ (r + 1) - 1) (2 ^ (r + 1) - 2) → c < s'.ns.length + 2 → (∀ σ, den s'.ns c σ = f.op (den s.ns a σ) (den s.ns b σ)) → post (.int (c : Int)) g'
/-- _split where the second one has the lower entry -/
def p_splitS {R : Rs} {C : Addr} {E : List Int} (hs : HasStore R C E) (r : Nat) : DSp R := fun ts g post => ∃ (s : SG) (f : Fo) (a b : Nat) (m : Nd), ts = [.raw (.ref s.a), .str f.str, .int (a : Int), .int (b : Int)] ∧ hs.sg g = some s ∧
  (s.Ok E ∧ a < s.ns.length + 2 ∧ b < s.ns.length + 2 ∧ rank E s.ns b ≤ r + 1 ∧ s.ns.length + 2 ^ (r + 1) + 10 < sizeLine ∧ s.rs.length + 2 ^ (r + 1) + 10 < sizeLine ∧ node s.ns b = some m ∧ ∀ n, node s.ns a = some n → m.e < n.e) ∧
  ∀ (c : Nat) g' s', hs.sg g' = some s' → s'.Ok E → Ext s s' (2 ^ (r + 1) - 1) (2 ^ (r + 1) - 2) → c < s'.ns.length + 2 → (∀ σ, den s'.ns c σ = f.op (den s.ns a σ) (den s.ns b σ)) → post (.int (c : Int)) g'
theorem fnok_or {P : Program} {w : World} {K : PySem.W.Frag} {mg : Str → Option Value} {base : Heap} {k : Nat} {f : Addr} {fd : FuncData} {ps : List Str} {sp1 sp2 sp : Sp} (F1 : FnOk P w K mg base CX0 k f fd ps sp1) (F2 : FnOk P w K mg base CX0 k f fd ps sp2)
    (h : ∀ vs H Q E, sp vs H Q E → sp1 vs H Q E ∨ sp2 vs H Q E) : FnOk P w K mg base CX0 k f fd ps sp :=
  ⟨fun vs H Q E q => (h vs H Q E q).elim (F1.len vs H Q E) (F2.len vs H Q E), fun A outer s H args us vs Q E hr he hb hv hs => (h _ _ _ _ hs).elim (F1.run A outer s H args us vs Q E hr he hb hv) (F2.run A outer s H args us vs Q E hr he hb hv)⟩
theorem split_or {K : PySem.W.Frag} {R : Rs} {C : Addr} {E : List Int} (hs : HasStore R C E) (r : Nat) : ∀ vs H Q X, spD K R [false, false, false, false] (p_split hs (r + 1)) vs H Q X →
    spD K R [false, false, false, false] (p_split0 hs r) vs H Q X ∨ spD K R [false, false, false, false] (p_splitS hs r) vs H Q X := by
  rintro vs H Q X ⟨F, ts, g, post, i, args, ⟨s, f, a, b, rfl, hg, ⟨k0, k1, k2, k3, k4, k5, k6, hlf⟩, hp⟩, cont⟩
  have left : ∀ n, node s.ns a = some n → (∀ m, node s.ns b = some m → n.e ≤ m.e) → spD K R [false, false, false, false] (p_split0 hs r) vs H Q X := fun n hn hb =>
    ⟨F, _, g, post, i, args, ⟨s, f, a, b, n, rfl, hg, ⟨k0, k1, k2, k3, k5, k6, hn, hb⟩, hp⟩, cont⟩
  have right : ∀ m, node s.ns b = some m → (∀ n, node s.ns a = some n → m.e < n.e) → spD K R [false, false, false, false] (p_splitS hs r) vs H Q X := fun m hm ha =>
    ⟨F, _, g, post, i, args, ⟨s, f, a, b, m, rfl, hg, ⟨k0, k1, k2, k4, k5, k6, hm, ha⟩, hp⟩, cont⟩
  cases hn : node s.ns a with
  | none =>
    cases hm : node s.ns b with
    | none =>
      rcases Fo.leaf_none hlf with h | h
      · obtain ⟨n, q⟩ := node_some h k1
        rw [hn] at q
        cases q
      · obtain ⟨n, q⟩ := node_some h k2
        rw [hm] at q
        cases q
    | some m => exact .inr (right m hm fun n q => by rw [hn] at q; cases q)
  | some n =>
    cases hm : node s.ns b with
    | none => exact .inl (left n hn fun m q => by rw [hm] at q; cases q)
    | some m =>
      rcases Int.lt_or_le m.e n.e with l | l
      · refine .inr (right m hm fun n' q => ?_)
        rw [hn] at q
        cases q
        exact l
      · refine .inl (left n hn fun m' q => ?_)
        rw [hm] at q
        cases q
        exact l
/-! ### the other methods -/
def p_node {R : Rs} {C : Addr} {E : List Int} (hs : HasStore R C E) : DSp R := fun ts g post => ∃ (s : SG) (c : Nat), ts = [.raw (.ref s.a), .int (c : Int)] ∧ hs.sg g = some s ∧ c < s.ns.length + 2 ∧ post (nodeT s.ns c) g
def p_there {R : Rs} {C : Addr} {E : List Int} (hs : HasStore R C E) : DSp R := fun ts g post => ∃ (s : SG) (e : Int), ts = [.raw (.ref s.a), .int e] ∧ hs.sg g = some s ∧ (s.Ok E ∧ e ∈ E ∧ s.ns.length + 10 < sizeLine) ∧
  ∀ (c : Nat) g' s', hs.sg g' = some s' → s'.Ok E → Ext s s' 1 0 → c < s'.ns.length + 2 → (∀ σ, den s'.ns c σ = σ e) → post (.int (c : Int)) g'
def p_bin {R : Rs} {C : Addr} {E : List Int} (hs : HasStore R C E) (f : Fo) (r : Nat) : DSp R := fun ts g post => ∃ (s : SG) (a b : Nat), ts = [.raw (.ref s.a), .int (a : Int), .int (b : Int)] ∧ hs.sg g = some s ∧
  (s.Ok E ∧ a < s.ns.length + 2 ∧ b < s.ns.length + 2 ∧ rank E s.ns a ≤ r ∧ rank E s.ns b ≤ r ∧ s.ns.length + 2 ^ r + 10 < sizeLine ∧ s.rs.length + 2 ^ r + 10 < sizeLine) ∧
  ∀ (c : Nat) g' s', hs.sg g' = some s' → s'.Ok E → Ext s s' (2 ^ r - 1) (2 ^ r - 1) → c < s'.ns.length + 2 → (∀ σ, den s'.ns c σ = f.op (den s.ns a σ) (den s.ns b σ)) → post (.int (c : Int)) g'
def p_neg {R : Rs} {C : Addr} {E : List Int} (hs : HasStore R C E) (r : Nat) : DSp R := fun ts g post => ∃ (s : SG) (a : Nat), ts = [.raw (.ref s.a), .int (a : Int)] ∧ hs.sg g = some s ∧
  (s.Ok E ∧ a < s.ns.length + 2 ∧ rank E s.ns a ≤ r ∧ s.ns.length + 2 ^ r + 10 < sizeLine ∧ s.rs.length + 2 ^ r + 10 < sizeLine) ∧
  ∀ (c : Nat) g' s', hs.sg g' = some s' → s'.Ok E → Ext s s' (2 ^ r - 1) (2 ^ r - 1) → c < s'.ns.length + 2 → (∀ σ, den s'.ns c σ = !den s.ns a σ) → post (.int (c : Int)) g'
end Zc
/-! Zg: repr of data; the law's own call, where no repr runs yet. -/
namespace Zc
open PySem PySem.Spec PyProof.Rows L2
def keyP : Key → PyData
  | .inl i => .int i
  | .inr x => .str x
mutual
/-- what repr shows -/
def T.pr : T → PyData
  | .non => .none | .bl b => .bool b | .int i => .int i | .str x => .str x | .lst xs => .list (prs xs) | .tup xs => .tuple (prs xs) | .dct kvs => .dict (prk kvs) | .raw _ => .none
def prs : List T → List PyData
  | [] => []
  | t :: ts => t.pr :: prs ts
def prk : List (Key × T) → List (PyData × PyData)
  | [] => []
  | (k, t) :: ts => (keyP k, t.pr) :: prk ts
end
mutual
/-- no raw value within -/
def T.noraw : T → Bool
  | .raw _ => false | .lst xs => noraws xs | .tup xs => noraws xs | .dct kvs => norawk kvs | _ => true
def noraws : List T → Bool
  | [] => true
  | t :: ts => t.noraw && noraws ts
def norawk : List (Key × T) → Bool
  | [] => true
  | (_, t) :: ts => t.noraw && norawk ts
end
section
variable {X : Cx} {pins : List (Addr × Obj)} {σ : L2.St} {F H : Hp} {s : Shared}
theorem key_rd {h : Heap} {k : Key} {v : Value} (e : keyIs k v = true) : ∃ as, Reads h v (keyP k) as := by
  rcases keyIs_shape e with ⟨i, t, rfl, rfl⟩ | ⟨x, t, rfl, rfl⟩
  · exact ⟨_, .int i t⟩
  · exact ⟨_, .str x t⟩
theorem keys_rd {h : Heap} : ∀ {kvs : List (Key × V)} {ts : List (Key × T)} {vs : List (Key × Value)} {es : List DictEntry}, RepK X.K F kvs ts → KV kvs vs → Pairs (mixKind X.prog X.w) es vs → ∃ as, ReadsAll h (es.map (·.key)) ((prk ts).map (·.1)) as
  | _, _, _, _, .nil, .nil, .nil => ⟨_, .nil⟩
  | _, _, _, _, .cons (k := k) _ b, .cons (b := q) r t, .cons h1 _ h3 => by
    obtain ⟨as, ih⟩ := keys_rd (h := h) b t h3
    have r1 : k = q.1 := r.1
    subst r1
    obtain ⟨a2, h2⟩ := key_rd (h := h) h1
    exact ⟨_, .cons h2 ih⟩
mutual
theorem T.rd (I : Inv X pins σ H s) (e : Ex F H) : ∀ (t : T) (v : V) (u : Value), t.noraw = true → Rep X.K F v t → RelV v u → ∃ as, Reads s.heap u t.pr as
  | .non, _, _, _, .non, r => by
    cases r
    exact ⟨_, .none⟩
  | .bl b, _, _, _, .bl _, r => by
    cases r
    exact ⟨_, .bool b⟩
  | .int i, _, _, _, .int _, r => by
    obtain ⟨k, rfl⟩ := r
    exact ⟨_, .int i k⟩
  | .str x, _, _, _, .str _, r => by
    obtain ⟨k, rfl⟩ := r
    exact ⟨_, .str x k⟩
  | .raw _, _, _, n, _, _ => by cases n
  | .lst ts, _, _, n, .lst (xs := xs) h hs, r => by
    cases r
    obtain ⟨its, rv, ⟨o, m, ho, hc, _, hd⟩, _⟩ := I.list (Evl.ex_l e h)
    obtain ⟨as, q⟩ := Ts.rd I e ts xs its n hs rv
    exact ⟨_, .list ho hc hd q⟩
  | .tup ts, _, _, n, .tup (xs := xs) h hs, r => by
    cases r
    obtain ⟨its, rv, ⟨o, ho, hc, m, hd⟩, _⟩ := I.tuple (Evl.ex_t e h)
    obtain ⟨as, q⟩ := Ts.rd I e ts xs its n hs rv
    exact ⟨_, .tuple ho hc hd q⟩
  | .dct ts, _, _, n, .dct (kvs := xs) h hs, r => by
    cases r
    obtain ⟨_, _, vs, kv, o, es, ep, ho, hx, hd, _, ps, _⟩ := I.hok _ _ (e _ _ h)
    obtain ⟨as, q1⟩ := keys_rd (h := s.heap) hs kv ps
    obtain ⟨bs, q2⟩ := Tk.rd I e ts xs vs es.toList n hs kv ps
    exact ⟨_, .dict ho hx.1 hd q1 q2⟩
theorem Ts.rd (I : Inv X pins σ H s) (e : Ex F H) : ∀ (ts : List T) (vs : List V) (us : List Value), noraws ts = true → Reps X.K F vs ts → Vals vs us → ∃ as, ReadsAll s.heap us (prs ts) as
  | [], _, _, _, .nil, .nil => ⟨_, .nil⟩
  | t :: ts, _, _, n, .cons a b, .cons r1 r2 => by
    have n' := (Bool.and_eq_true _ _).mp n
    obtain ⟨as, q1⟩ := T.rd I e t _ _ n'.1 a r1
    obtain ⟨bs, q2⟩ := Ts.rd I e ts _ _ n'.2 b r2
    exact ⟨_, .cons q1 q2⟩
theorem Tk.rd (I : Inv X pins σ H s) (e : Ex F H) : ∀ (ts : List (Key × T)) (kvs : List (Key × V)) (vs : List (Key × Value)) (es : List DictEntry), norawk ts = true → RepK X.K F kvs ts → KV kvs vs → Pairs (mixKind X.prog X.w) es vs → ∃ as, ReadsAll s.heap (es.map (·.val)) ((prk ts).map (·.2)) as
  | [], _, _, _, _, .nil, .nil, .nil => ⟨_, .nil⟩
  | (k, t) :: ts, _, _, _, n, .cons a b, .cons r r2, .cons (e := e0) _ h2 h3 => by
    have n' := (Bool.and_eq_true _ _).mp n
    obtain ⟨as, q1⟩ := T.rd I e t _ _ n'.1 a r.2
    obtain ⟨bs, q2⟩ := Tk.rd I e ts _ _ _ n'.2 b r2 h3
    rw [← h2] at q1
    exact ⟨_, .cons q1 q2⟩
end
theorem keyP_noDict : ∀ ts : List (Key × T), PyData.hasDictAll ((prk ts).map (·.1)) = false
  | [] => by simp only [prk, List.map_nil, PyData.hasDictAll]
  | (k, t) :: ts => by
    have ih := keyP_noDict ts
    have : (keyP k).hasDict = false := by cases k <;> simp only [keyP, PyData.hasDict]
    simp only [prk, List.map_cons, PyData.hasDictAll, this, ih, Bool.or_self]
mutual
theorem T.rk (I : Inv X pins σ H s) (e : Ex F H) : ∀ (t : T) (v : V) (u : Value), t.noraw = true → t.pr.showable = true → t.pr.shown.length ≤ sizeLine → Rep X.K F v t → RelV v u → ∃ bs, ReadAtMost s.heap t.pr.depth bs ∧ ReprK X.prog X.w bs s.heap t.pr.depth u t.pr.shown
  | .non, _, _, _, _, _, .non, r => by
    cases r
    exact ReprK.of_reads (as := []) .none rfl (fun z => by cases z) (by decide +kernel)
  | .bl b, _, _, _, _, hz, .bl _, r => by
    cases r
    exact ReprK.of_reads (as := []) (.bool b) rfl (fun z => by cases z) hz
  | .int i, _, _, _, hs, hz, .int _, r => by
    obtain ⟨k, rfl⟩ := r
    exact ReprK.of_reads (as := []) (.int i k) hs (fun z => by cases z) hz
  | .str x, _, _, _, _, hz, .str _, r => by
    obtain ⟨k, rfl⟩ := r
    exact ReprK.of_reads (as := []) (.str x k) rfl (fun z => by cases z) hz
  | .raw _, _, _, n, _, _, _, _ => by cases n
  | .lst ts, _, _, n, hs, hz, .lst (a := a) (xs := xs) h h0, r => by
    cases r
    obtain ⟨its, rv, ⟨o, m, ho, hc, _, hd⟩, _⟩ := I.list (Evl.ex_l e h)
    have hz2 : (listText (PyData.shownAll (prs ts))).length ≤ sizeLine := by simpa only [T.pr, PyData.shown] using hz
    obtain ⟨bs, b1, k1⟩ := Ts.rk I e ts xs its n (by simpa only [T.pr, PyData.showable] using hs) (fun t ht => Nat.le_trans (listText_mem_le ht) hz2) h0 rv
    obtain ⟨as, q⟩ := Ts.rd I e ts xs its n h0 rv
    have rr : Reads s.heap (.ref a) (.list (prs ts)) _ := .list ho hc hd q
    have na : a ∉ bs := not_mem_of_deeper rr (by simp only [PyData.depth]; omega) b1
    have ra := ReadAtMost.cons rr (by simp only [PyData.depth]; omega) b1
    refine ⟨a :: bs, ra, ?_⟩
    simp only [T.pr, PyData.depth, PyData.shown]
    cases its with
    | nil =>
      cases rv
      cases h0
      simp only [prs, PyData.shownAll, listText_nil]
      exact ReprK.listEmpty ho hc hd
    | cons y l => exact ReprK.list ho hc hd na (by simpa using k1.length_eq) fun i z hi => k1.item i z (by simpa using hi)
  | .tup ts, _, _, n, hs, hz, .tup (a := a) (xs := xs) h h0, r => by
    cases r
    obtain ⟨its, rv, ⟨o, ho, hc, m, hd⟩, _⟩ := I.tuple (Evl.ex_t e h)
    have hz2 : (tupleText (PyData.shownAll (prs ts))).length ≤ sizeLine := by simpa only [T.pr, PyData.shown] using hz
    obtain ⟨bs, b1, k1⟩ := Ts.rk I e ts xs its n (by simpa only [T.pr, PyData.showable] using hs) (fun t ht => Nat.le_trans (tupleText_mem_le ht) hz2) h0 rv
    obtain ⟨as, q⟩ := Ts.rd I e ts xs its n h0 rv
    have rr : Reads s.heap (.ref a) (.tuple (prs ts)) _ := .tuple ho hc hd q
    have na : a ∉ bs := not_mem_of_deeper rr (by simp only [PyData.depth]; omega) b1
    have ra := ReadAtMost.cons rr (by simp only [PyData.depth]; omega) b1
    refine ⟨a :: bs, ra, ?_⟩
    simp only [T.pr, PyData.depth, PyData.shown]
    exact ReprK.tuple ho hc hd na (by simpa using k1)
  | .dct ts, _, _, n, hs, hz, .dct (a := a) (kvs := xs) h h0, r => by
    cases r
    obtain ⟨_, hsys, vs, kv, o, es, ep, ho, hx, hd, _, ps, _⟩ := I.hok _ _ (e _ _ h)
    obtain ⟨a1, q1⟩ := keys_rd (h := s.heap) h0 kv ps
    obtain ⟨a2, q2⟩ := Tk.rd I e ts xs vs es.toList n h0 kv ps
    have hz2 : (dictText (PyData.shownKv (prk ts))).length ≤ sizeLine := by simpa only [T.pr, PyData.shown] using hz
    obtain ⟨s1, s2⟩ := PyData.showableKv_split (prk ts) (by simpa only [T.pr, PyData.showable] using hs)
    obtain ⟨c1, d1, k1⟩ := ReprAllK.of_readsAll (prog := X.prog) (w := X.w) q1 s1 (fun z => by rw [keyP_noDict] at z; cases z) fun t ht => by
      obtain ⟨p, hp, hl⟩ := PyData.shownKv_key_le (prk ts) t ht
      exact Nat.le_trans hl (Nat.le_trans (dictText_mem_le hp) hz2)
    obtain ⟨c2, d2, k2⟩ := Tk.rk I e ts xs vs es.toList n s2 (fun t ht => by
      obtain ⟨p, hp, hl⟩ := PyData.shownKv_val_le (prk ts) t ht
      exact Nat.le_trans hl (Nat.le_trans (dictText_mem_le hp) hz2)) h0 kv ps
    have rr : Reads s.heap (.ref a) (.dict (prk ts)) _ := .dict ho hx.1 hd q1 q2
    have hb : ReadAtMost s.heap (PyData.depthKv (prk ts)) (c1 ++ c2) := (d1.mono (PyData.depthAll_keys_le _)).append (d2.mono (PyData.depthAll_vals_le _))
    have na : a ∉ c1 ++ c2 := not_mem_of_deeper rr (by simp only [PyData.depth]; omega) hb
    have ra := ReadAtMost.cons rr (by simp only [PyData.depth]; omega) hb
    refine ⟨a :: (c1 ++ c2), ra, ?_⟩
    simp only [T.pr, PyData.depth, PyData.shown, PyData.shownKv_eq]
    exact ReprK.dict ho hx.1 hd hsys na (ReprEntriesK.of_two es.toList _ _ (k1.more_le (fun b hb => List.mem_append_left _ hb) (PyData.depthAll_keys_le _)) (k2.more_le (fun b hb => List.mem_append_right _ hb) (PyData.depthAll_vals_le _)))
theorem Ts.rk (I : Inv X pins σ H s) (e : Ex F H) : ∀ (ts : List T) (vs : List V) (us : List Value), noraws ts = true → PyData.showableAll (prs ts) = true → (∀ t ∈ PyData.shownAll (prs ts), t.length ≤ sizeLine) → Reps X.K F vs ts → Vals vs us →
    ∃ bs, ReadAtMost s.heap (PyData.depthAll (prs ts)) bs ∧ ReprAllK X.prog X.w bs s.heap (PyData.depthAll (prs ts)) us (PyData.shownAll (prs ts))
  | [], _, _, _, _, _, .nil, .nil => ⟨[], (fun _ h => nomatch h), by simp only [prs, PyData.shownAll]; exact .nil⟩
  | t :: ts, _, _, n, hs, hz, .cons a b, .cons r1 r2 => by
    have n' := (Bool.and_eq_true _ _).mp n
    have hs' : t.pr.showable = true ∧ PyData.showableAll (prs ts) = true := by simpa [prs, PyData.showableAll] using hs
    obtain ⟨b1, m1, k1⟩ := T.rk I e t _ _ n'.1 hs'.1 (hz _ (by simp only [prs, PyData.shownAll]; exact List.mem_cons_self)) a r1
    obtain ⟨b2, m2, k2⟩ := Ts.rk I e ts _ _ n'.2 hs'.2 (fun x hx => hz x (by simp only [prs, PyData.shownAll]; exact List.mem_cons_of_mem _ hx)) b r2
    refine ⟨b1 ++ b2, (m1.mono ?_).append (m2.mono ?_), ?_⟩
    · simp only [prs, PyData.depthAll]
      exact Nat.le_max_left _ _
    · simp only [prs, PyData.depthAll]
      exact Nat.le_max_right _ _
    · simp only [prs, PyData.depthAll, PyData.shownAll]
      exact .cons ((k1.more fun b hb => List.mem_append_left _ hb).level_le (Nat.le_max_left _ _)) (k2.more_le (fun b hb => List.mem_append_right _ hb) (Nat.le_max_right _ _))
theorem Tk.rk (I : Inv X pins σ H s) (e : Ex F H) : ∀ (ts : List (Key × T)) (kvs : List (Key × V)) (vs : List (Key × Value)) (es : List DictEntry), norawk ts = true → PyData.showableAll ((prk ts).map (·.2)) = true → (∀ t ∈ PyData.shownAll ((prk ts).map (·.2)), t.length ≤ sizeLine) → RepK X.K F kvs ts → KV kvs vs → Pairs (mixKind X.prog X.w) es vs →
    ∃ bs, ReadAtMost s.heap (PyData.depthAll ((prk ts).map (·.2))) bs ∧ ReprAllK X.prog X.w bs s.heap (PyData.depthAll ((prk ts).map (·.2))) (es.map (·.val)) (PyData.shownAll ((prk ts).map (·.2)))
  | [], _, _, _, _, _, _, .nil, .nil, .nil => ⟨[], (fun _ h => nomatch h), by simp only [prk, List.map_nil, PyData.shownAll]; exact .nil⟩
  | (k, t) :: ts, _, _, _, n, hs, hz, .cons a b, .cons r r2, .cons (e := e0) _ h2 h3 => by
    have n' := (Bool.and_eq_true _ _).mp n
    have hs' : t.pr.showable = true ∧ PyData.showableAll ((prk ts).map (·.2)) = true := by simpa [prk, PyData.showableAll] using hs
    obtain ⟨b1, m1, k1⟩ := T.rk I e t _ _ n'.1 hs'.1 (hz _ (by simp only [prk, List.map_cons, PyData.shownAll]; exact List.mem_cons_self)) a r.2
    obtain ⟨b2, m2, k2⟩ := Tk.rk I e ts _ _ _ n'.2 hs'.2 (fun x hx => hz x (by simp only [prk, List.map_cons, PyData.shownAll]; exact List.mem_cons_of_mem _ hx)) b r2 h3
    rw [← h2] at k1
    refine ⟨b1 ++ b2, (m1.mono ?_).append (m2.mono ?_), ?_⟩
    · simp only [prk, List.map_cons, PyData.depthAll]
      exact Nat.le_max_left _ _
    · simp only [prk, List.map_cons, PyData.depthAll]
      exact Nat.le_max_right _ _
    · simp only [prk, List.map_cons, PyData.depthAll, PyData.shownAll]
      exact .cons ((k1.more fun b hb => List.mem_append_left _ hb).level_le (Nat.le_max_left _ _)) (k2.more_le (fun b hb => List.mem_append_right _ hb) (Nat.le_max_right _ _))
end
end
/-- what repr is called on: a dict, or a list that holds something -/
def T.prTop : T → Bool
  | .lst (_ :: _) => true | .dct _ => true | _ => false
def rRepr (K : PySem.W.Frag) : List V → Hp → VK → Prop := fun vs H Q => ∃ (F : Hp) (x : V) (t : T), vs = [x] ∧ Ex F H ∧ Rep K F x t ∧ t.prTop = true ∧ t.noraw = true ∧ t.pr.showable = true ∧ t.pr.depth ≤ 20 ∧ t.pr.shown.length ≤ sizeLine ∧ Q (.str t.pr.shown) H
theorem cr_repr {X : Cx} (hg : X.A.guards = some []) (hu : X.A.units + 100 < cLine) : CallR X (.builtin "repr") (rRepr X.K) := by
  intro pins s σ H vs us Q I rr h
  obtain ⟨F, x, t, rfl, e, r, tp, nr, sh, dp, sz, q⟩ := h
  obtain ⟨u, rfl, rv⟩ := (show ∃ u, us = [u] ∧ RelV x u by
    cases rr with
    | cons a b => cases b; exact ⟨_, rfl, a⟩)
  have fin : ∀ h' k tk, (∀ b o, s.heap.get? b = some o → h'.get? b = some o) → EP X pins σ Q (.str t.pr.shown k) { s with heap := h', toks := tk } := fun h' k tk kp =>
    ⟨.str t.pr.shown, H, I.kept kp, ⟨k, rfl⟩, q⟩
  cases t with
  | lst ts =>
    cases r with
    | @lst a xs _ h h0 =>
      cases rv
      obtain ⟨its, rv, ⟨o, m, ho, hc, _, hd⟩, _⟩ := I.list (Evl.ex_l e h)
      have hz2 : (listText (PyData.shownAll (prs ts))).length ≤ sizeLine := by simpa only [T.pr, PyData.shown] using sz
      obtain ⟨bs, b1, k1⟩ := Ts.rk I e ts xs its nr (by simpa only [T.pr, PyData.showable] using sh) (fun t ht => Nat.le_trans (listText_mem_le ht) hz2) h0 rv
      obtain ⟨as, q⟩ := Ts.rd I e ts xs its nr h0 rv
      have rr : Reads s.heap (.ref a) (.list (prs ts)) _ := .list ho hc hd q
      have na : a ∉ bs := not_mem_of_deeper rr (by simp only [PyData.depth]; omega) b1
      have dp2 : PyData.depthAll (prs ts) + 1 ≤ 20 := by simpa only [T.pr, PyData.depth] using dp
      cases its with
      | nil =>
        cases rv
        cases h0
        cases tp
      | cons y l =>
        exact call_repr_slot (by omega) ⟨o, ho, hc⟩ PySem.F.slot_list_repr.toG (call_list_reprK ho hc hd na (by simpa using k1.length_eq) (fun i z hi => k1.item i z (by simpa using hi)) hg (fun b _ => Clear.nil b) (by show X.A.units + 1 + _ < _; omega) (fun _ _ z => z)
          (fun h' k tk kp => ⟨_, _, rfl, by simpa only [T.pr, PyData.shown] using fin h' k tk kp⟩) hz2)
  | dct ts =>
    cases r with
    | @dct a xs _ h h0 =>
      cases rv
      obtain ⟨_, hsys, vs, kv, o, es, ep, ho, hx, hd, _, ps, _⟩ := I.hok _ _ (e _ _ h)
      obtain ⟨a1, q1⟩ := keys_rd (h := s.heap) h0 kv ps
      obtain ⟨a2, q2⟩ := Tk.rd I e ts xs vs es.toList nr h0 kv ps
      have hz2 : (dictText (PyData.shownKv (prk ts))).length ≤ sizeLine := by simpa only [T.pr, PyData.shown] using sz
      obtain ⟨s1, s2⟩ := PyData.showableKv_split (prk ts) (by simpa only [T.pr, PyData.showable] using sh)
      obtain ⟨c1, d1, k1⟩ := ReprAllK.of_readsAll (prog := X.prog) (w := X.w) q1 s1 (fun z => by rw [keyP_noDict] at z; cases z) fun t ht => by
        obtain ⟨p, hp, hl⟩ := PyData.shownKv_key_le (prk ts) t ht
        exact Nat.le_trans hl (Nat.le_trans (dictText_mem_le hp) hz2)
      obtain ⟨c2, d2, k2⟩ := Tk.rk I e ts xs vs es.toList nr s2 (fun t ht => by
        obtain ⟨p, hp, hl⟩ := PyData.shownKv_val_le (prk ts) t ht
        exact Nat.le_trans hl (Nat.le_trans (dictText_mem_le hp) hz2)) h0 kv ps
      have rr : Reads s.heap (.ref a) (.dict (prk ts)) _ := .dict ho hx.1 hd q1 q2
      have hb : ReadAtMost s.heap (PyData.depthKv (prk ts)) (c1 ++ c2) := (d1.mono (PyData.depthAll_keys_le _)).append (d2.mono (PyData.depthAll_vals_le _))
      have na : a ∉ c1 ++ c2 := not_mem_of_deeper rr (by simp only [PyData.depth]; omega) hb
      have dp2 : PyData.depthKv (prk ts) + 1 ≤ 20 := by simpa only [T.pr, PyData.depth] using dp
      have hz3 : (dictText (List.zipWith (fun k v : Str => k ++ ": " ++ v) (PyData.shownAll ((prk ts).map (·.1))) (PyData.shownAll ((prk ts).map (·.2))))).length ≤ sizeLine := by rw [← PyData.shownKv_eq]; exact hz2
      refine call_repr_slot (by omega) ⟨o, ho, hx.1⟩ PySem.F.slot_dict_repr (call_dict_reprK ho hx.1 hd hsys na (ReprEntriesK.of_two es.toList _ _ (k1.more_le (fun b hb => List.mem_append_left _ hb) (PyData.depthAll_keys_le _)) (k2.more_le (fun b hb => List.mem_append_right _ hb) (PyData.depthAll_vals_le _))) hg (fun b _ => Clear.nil b) (by show X.A.units + 1 + _ < _; omega) (fun _ _ z => z)
          (fun h' k tk kp => ⟨_, _, rfl, ?_⟩) hz3)
      rw [← PyData.shownKv_eq]
      simpa only [T.pr, PyData.shown] using fin h' k tk kp
  | non => cases tp
  | bl _ => cases tp
  | int _ => cases tp
  | str _ => cases tp
  | tup _ => cases tp
  | raw _ => cases tp
end Zc
namespace Zc
open PySem PySem.Spec PyProof.Rows L2
/-- a def's promise where no repr runs -/
structure FnG (P : Program) (w : World) (K : PySem.W.Frag) (mg : Str → Option Value) (base : Heap) (k : Nat) (f : Addr) (fd : FuncData) (ps : List Str) (sp : Sp) : Prop where
  run : ∀ (A : Around) (outer : List Env) (s : Shared) (H : Hp) (args : Args) (us : List Value) (vs : List V) (Q : VK) (E : XK), A.guards = some [] → Room k A → Env0 P w K mg base A outer s H → BindsTo s fd args (ps.zip us) → Vals vs us → sp vs H Q E →
    codeAny (model P w) A (.call (.ref f) args) (CR CX0 outer P w H s Q E) s
theorem okG {P : Program} {w : World} {K : PySem.W.Frag} {mg : Str → Option Value} {base : Heap} {k : Nat} {x q : Str} {pm : Arguments} {bd : List Stmt} {sc : Scope} {dvs : List V} {kws : List (Str × V)} {f : Addr} {fd : FuncData} {N ps : List Str} {sp : Sp}
    (D : FunD K x q pm bd sc dvs kws f fd) (S : FnScope N ps sc) (len : ∀ vs H Q E, sp vs H Q E → vs.length = ps.length)
    (body : ∀ (c : Value) (A : Around) (outer : List Env) (s : Shared) (H : Hp) (vs : List V) (Q : VK) (E : XK), A.guards = some [] → Room k (A.deeper (envOfC q sc s.heap.objs.size f c)) → sp vs H Q E →
      ∃ t, PSs (cxOf CX0 P w K mg base N q sc f c A outer s H E) bd t ∧ t { nx := fun _ H' => Q .non H', rt := Q } (L2.start N vs) H) : FnG P w K mg base (k + 1) f fd ps sp := by
  obtain ⟨o1, o2, d1, d2, dc, p1, a1, c, ct, sl, rfl, lk, cd, _, _⟩ := D.ex
  refine ⟨fun A outer s H args us vs Q E gd hr e0 hb rel wish => ?_⟩
  have same := len _ _ _ _ wish
  have inK : K.In s.heap := e0.mod.kin.keeps fun b o e => (e0.bs b o e).1
  have nol : s.heap.NoLimit := e0.mod.nolimit.keeps fun b o e => (e0.bs b o e).1
  have kinds : ∀ y ∈ ps.zip us, sc.names.lookup y.1 = some .local ∨ (sc.names.lookup y.1 = some .cell ∧ ((cellsFrom (s.heap.objs.size + 1) sc.names []).lookup y.1).isSome = true) := by
    rintro ⟨n, v⟩ hy
    refine (S.par n (List.of_mem_zip hy).1).imp id fun z => ⟨z, PySem.W.cellsFrom_some _ _ _ (.inl z)⟩
  refine codeAny_call_function hr.depth (inK _ _ lk) rfl S.co S.gen rfl (PySem.W.codeRec_of inK cd) (hb _ _ _ _ ?_)
  refine wpAny_newFunctionEnv_cells S.kind kinds fun env he s1 x1 => ?_
  subst he
  refine ⟨nol.keeps x1.toInCall.keep, codeAny_func ?_⟩
  obtain ⟨t, ht, go⟩ := body c A outer s H vs Q E gd (hr.deeper _) wish
  refine wpAny_mono (ht.run [] s1 (L2.start N vs) H _ (inv_start S hr.hd e0 same rel x1) go) (fun fl s2 hs => ?_) fun _ _ hs => hs
  cases fl with
  | ret u =>
    obtain ⟨v, _, H', J, rv, q⟩ := hs
    exact ⟨v, H', J.os, J.bare, J.base, J.hok, rv, q⟩
  | next =>
    obtain ⟨_, H', J, q⟩ := hs
    exact ⟨.non, H', J.os, J.bare, J.base, J.hok, rfl, q⟩
  | brk =>
    obtain ⟨_, _, _, q⟩ := hs
    exact q.elim
  | cont =>
    obtain ⟨_, _, _, q⟩ := hs
    exact q.elim
theorem callG {P : Program} {w : World} {K : PySem.W.Frag} {mg mb : Str → Option Value} {k : Nat} {fa a : Addr} {fd : FuncData} {x : Str} {sp : Sp} {s : Shared} {vs : List Value} {ns : List Int}
    (inK : K.In s.heap) (gn : s.heap.Ns mainGlobals mg) (bn : s.heap.Ns builtinsNs mb) (bb : ∀ x : Str, x ≠ "__name__" → mb x = bootBuiltins x) (nol : s.heap.NoLimit) (ng : s.gens = #[])
    (ha : s.heap.get? a = some { cls := .type "list", data := .seq vs.toArray }) (hi : IntsAre vs ns) (hl : ns.length ≤ sizeLine) (hr : Room k callerA)
    (G : ∀ base : Heap, K.In base → base.Ns mainGlobals mg → FnG P w K mg base k fa fd [x] sp) (bind : ∀ (s : Shared) (u : Value), BindsTo s fd ⟨[u], []⟩ [(x, u)])
    (wish : ∀ H : Hp, Only H → SqL K H a (ns.map V.int) → sp [.ref a] H (fun v _ => v = .bl true) fun _ _ _ => False) :
    codeAny (model P w) callerA (.call (.ref fa) ⟨[.ref a], []⟩) (fun r s' => r = .ok (.ret (.bool true)) ∧ OldK s.heap s'.heap ∧ s'.os = s.os ∧ AllBare s'.gens) s := by
  have rel := vals_ints hi
  have ln := hi.length
  have main : ∀ H : Hp, Only H → SqL K H a (ns.map V.int) → HOk P w H s.heap → (∀ b, H b ≠ none → b = a) → (H a ≠ none → K.lookup a = none) →
      codeAny (model P w) callerA (.call (.ref fa) ⟨[.ref a], []⟩) (fun r s' => r = .ok (.ret (.bool true)) ∧ OldK s.heap s'.heap ∧ s'.os = s.os ∧ AllBare s'.gens) s := by
    intro H only sq ok at_ free
    have isA : ∀ {b : Addr} {u : HO}, H b = some u → b = a := fun {b u} e => at_ b (by rw [e]; exact fun z => nomatch z)
    have keepNs : ∀ {b : Addr} {m : Str → Option Value}, s.heap.Ns b m → (hidT s.heap H).Ns b m := by
      rintro b m ⟨o, es, ep, e, d, r⟩
      refine ⟨o, es, ep, hidT_get e ?_, d, r⟩
      cases q : H b with
      | none => rfl
      | some u =>
        cases isA q
        rw [ha] at e
        cases e
        cases (show Data.seq vs.toArray _ = Data.dict es ep from d)
    have keepK : K.In (hidT s.heap H) := fun b o e => hidT_get (inK b o e) (by
      cases q : H b with
      | none => rfl
      | some u =>
        cases isA q
        rw [free (by rw [q]; exact fun z => nomatch z)] at e
        cases e)
    have md : Mod K mg (hidT s.heap H) := ⟨keepK, keepNs gn, ⟨mb, keepNs bn, bb⟩, by
      obtain ⟨mc, h1, h2⟩ := nol
      exact ⟨mc, keepNs h1, h2⟩⟩
    have env : Env0 P w K mg (hidT s.heap H) callerA [] s H := ⟨rfl, md, fun b o e => of_hidT e, Nat.le_of_eq (hidT_size _ _), trivial, fun b hb => absurd (show b ∈ ([] : List Addr) from hb) (by simp), ok, .of_eq ng⟩
    refine codeAny_mono ((G _ keepK (keepNs gn)).run callerA [] s H ⟨[.ref a], []⟩ [.ref a] [.ref a] _ _ rfl hr env (bind s (.ref a)) (.cons rfl .nil) (wish H only sq)) fun r s' h => ?_
    cases r with
    | error e => exact (show False from h).elim
    | ok fl =>
      cases fl with
      | next => exact (show False from h).elim
      | brk => exact (show False from h).elim
      | cont => exact (show False from h).elim
      | ret u =>
        obtain ⟨v, H', os, bare, un, ok', rv, q⟩ := h
        cases (show v = .bl true from q)
        cases (show u = Value.bool true from rv)
        refine ⟨rfl, OldK.of_keep fun b o e => ?_, os, bare⟩
        rcases only b with z | ⟨ob, xs, z⟩
        · exact un.keep b o e z (fun z => absurd (show b ∈ ([] : List Addr) from z) (by simp)) (by simp)
        · obtain ⟨e1, _⟩ := ok b _ z
          obtain ⟨e2, _⟩ := ok' b _ (un.frzs b ob _ z)
          rw [e] at e1
          cases e1
          exact e2
  cases hk : K.lookup a with
  | some o =>
    have e := inK a o hk
    rw [ha] at e
    cases e
    exact main (fun _ => none) (fun _ => .inl rfl) (.inr ⟨_, vs.toArray, _, hk, rfl, rfl, rfl, by rw [List.size_toArray, ln]; exact hl, by simpa using rel⟩) (fun b u z => nomatch (show (none : Option HO) = some u from z)) (fun b z => absurd rfl z) fun z => absurd rfl z
  | none =>
    refine main (upd (fun _ => none) a (.frz { cls := .type "list", data := .seq vs.toArray } (.lst (ns.map V.int)))) (fun b => ?_) (.inl (.inr ⟨{ cls := .type "list", data := .seq vs.toArray }, upd_same⟩)) (fun b u z => ?_) (fun b z => ?_) fun _ => hk
    · by_cases hb : b = a
      · subst hb
        exact .inr ⟨_, _, upd_same⟩
      · exact .inl (upd_ne hb)
    · by_cases hb : b = a
      · subst hb
        rw [upd_same] at z
        cases z
        exact ⟨ha, by rw [List.length_map]; exact hl, vs, _, rel, ha⟩
      · rw [upd_ne hb] at z
        cases z
    · by_cases hb : b = a
      · exact hb
      · exact absurd (upd_ne hb) z
theorem walkG {l : PySem.W.OpenLaw} {n k : Nat} {q : Program} {loose : List Str} {XP : (Str → Option Value) → Heap → Prop} {YP : World → Heap → Prop} {d : DefRec} {x : Str}
    (hn : l.most = some n) (hs : n ≤ sizeLine) (nd : d.params.defaults = []) (hr : Room k callerA)
    (F : ∀ (w : World) (mg : Str → Option Value) (fa : Addr) (h : Heap), YP w h → h.Ns mainGlobals mg → mg d.name = some (.ref fa) →
      ∃ (K : PySem.W.Frag) (fd : FuncData) (sp : Sp), K.In h ∧ (∀ (s : Shared) (u : Value), BindsTo s fd ⟨[u], []⟩ [(x, u)]) ∧
        (∀ (H : Hp) (a : Addr) (ns : List Int), ns.length ≤ n → Only H → SqL K H a (ns.map V.int) → sp [.ref a] H (fun v _ => v = .bl true) fun _ _ _ => False) ∧
        ∀ base : Heap, K.In base → base.Ns mainGlobals mg → FnG l.prog w K mg base k fa fd [x] sp) :
    PySem.W.WalkO q loose XP YP l.row.toRowW d [] (fun f vs => PySem.call f vs) := by
  refine Att.attach_call hn nd fun w s0 s mg mb fa o pm cd doc a vs ns G Y ho hd hcd hmg hobj hints hlen ng => ?_
  obtain ⟨K, fd, sp, inK, hb, wish, ok⟩ := F w mg fa _ Y G.T.g hmg
  exact callG inK G.T.g G.T.b G.T.builtins G.T.nolimit ng hobj hints (Nat.le_trans hlen hs) hr ok hb fun H o1 o2 => wish H a ns hlen o1 o2
end Zc
/-! Zr: {e for x in xs}, e an int; sorted of it. -/
namespace Zc
open PySem PySem.Spec PyProof.Rows L2
/-- {e for g in it if t}: D the new set -/
def tScI (w : World) (wi : TI) (g : TG) (tt : TT) (te : TE) (vs : List Nat) : TE := fun σ H Q => wi σ H fun J H1 => ∀ D, H1 D = none → ∃ V : Nat → Nat → Hp → Prop, (∃ m, V 0 m (upd H1 D (SetO w D (fun _ => false) 0))) ∧ ∀ i m H, V i m H →
  (J.stop i H ∧ Q (.ref D) H) ∨ (J.go i H ∧ ∃ Nx : Hp → Prop, (∀ H', Nx H' → ∃ m', m' < m ∧ V (i + 1) m' H') ∧ ∀ x H', J.yld i H x H' → g x (wipe σ vs) H' fun τ H2 => wipe τ vs = wipe σ vs ∧ tt τ H2 fun b H3 =>
    if b = true then te τ H3 fun y H4 => ∃ (c : Int) (S : Int → Bool) (n : Nat), y = .int c ∧ H4 D = some (SetO w D S n) ∧ n + 1 < scanBound ∧ Nx (upd H4 D (SetO w D (fun j => S j || decide (j = c)) (if S c = true then n else n + 1))) else Nx H3)
section
variable {X : Cx}
theorem addI_ok {pins : List (Addr × Obj)} {σ : L2.St} {H : Hp} {s : Shared} {E : Value → Shared → Prop} {D : Addr} {S : Int → Bool} {n : Nat} {y : Int} {tk : Tok} {Q : Value → Shared → Prop} (I : Inv X pins σ H s) (hD : H D = some (SetO X.w D S n)) (room : n + 1 < scanBound)
    (h : ∀ s', Inv X pins σ (upd H D (SetO X.w D (fun j => S j || decide (j = y)) (if S y = true then n else n + 1))) s' → Q .none s') : wpAny (model X.prog X.w) X.A (call (.builtin "set.add") [.ref D, .int y tk]) Q E s := by
  refine setR_add (setO_get I hD) room fun h' sb new => h _ (I.write (e := D) (t' := s.toks + 1) (by rw [hD]; trivial) (.inl rfl) (fun b u hb hu => (sb.2 b hb).trans hu) ?_ (setO_new new))
  obtain ⟨o, _, _, _, ho, _⟩ := new
  exact ⟨o, ho⟩
theorem pe_scI {elt tg it : Expr} {ifs : List Expr} {scope : Scope} {own : List (PySem.Str × Nat)} {pos : Pos} {wi : TI} {g : TG} {tt : TT} {te : TE} (c : X.calm = true) (nd : X.N.Nodup) (pi : PI X tg it wi) (bo : BlkOk X.N X.env.scope scope own)
    (pg : ∀ s H C cl fp, PG (X.blk s H scope (compEnvC scope cl C X.env) fp) tg g) (pt : ∀ s H C cl fp, PTs (X.blk s H scope (compEnvC scope cl C X.env) fp) ifs tt)
    (pe : ∀ s H C cl fp, PE (X.blk s H scope (compEnvC scope cl C X.env) fp) elt te) (fs : ∀ x, foldedSetIterable it X.env x = pure x := by intro _; rfl) :
    PE X (.SetComp elt [⟨tg, it, ifs, 0⟩] scope pos) (tScI X.w wi g tt te (own.map (·.2))) := by
  refine ⟨fun pins s σ H Q I h => ?_⟩
  rw [PpSet.eval_SetComp]
  have clos : ∀ y ∈ scope.names, y.2 = .free → ∃ c, X.env.cells.lookup y.1 = some c := fun y hy e => (bo.free y hy e).elim (fun k => I.ok.has _ (.inl k)) fun k => I.ok.has _ (.inr k)
  refine wpAny_comprehension_free (use := none) rfl fs (closure_ok clos) bo.kind (fun y hy e => by rw [bo.uniq y hy, e]) (thn (pi.run pins s σ H _ I h) fun xv s1 hx => thn hx fun itv s2 h2 => ?_)
  obtain ⟨i0, fp, tn, J, H2, rfl, I2, T, st2, f2, q⟩ := h2
  refine PpSet.newSet_ok (newEnv_comp ?_)
  generalize dD : s2.heap.objs.size = D
  have nD : H2 D = none := I2.hok.fresh (Nat.le_of_eq dD)
  obtain ⟨V, ⟨m0, v0⟩, turn⟩ := q D nD
  generalize d3 : ({ s2 with heap := s2.heap.push { cls := .type "set", dict := none, data := .set #[] 0 (.fresh 0 0 (!X.w.params.followText "set-order")) } } : Shared) = s3
  have hp3 : s3.heap = s2.heap.push { cls := .type "set", dict := none, data := .set #[] 0 (.fresh 0 0 (!X.w.params.followText "set-order")) } := by rw [← d3]
  have I3 : Inv X pins σ (upd H2 D (SetO X.w D (fun _ => false) 0)) s3 := by
    subst d3
    refine I2.laid (t' := s2.toks) (fun b o e => Heap.get?_push_of_some _ e) (Nat.le_of_eq dD) (setO_new ?_)
    subst dD
    have := setR_new_at (w := X.w) (ns := []) (Heap.get?_push_size s2.heap (o := { cls := .type "set", dict := none, data := .set #[] 0 (.fresh 0 0 (!X.w.params.followText "set-order")) }) rfl)
    simpa using this
  have small : ∀ b ∈ fp, b < s2.heap.objs.size := fun b hb => by
    obtain ⟨o, e, _⟩ := T.obj _ _ st2 b hb
    exact Heap.lt_size e
  have f3 : ∀ b ∈ fp, FpOk X pins (upd H2 D (SetO X.w D (fun _ => false) 0)) b ∧ b < s3.heap.objs.size := fun b hb => by
    have lt := small b hb
    refine ⟨⟨?_, (f2 b hb).2⟩, by rw [hp3, Heap.size_push]; exact Nat.lt_succ_of_lt lt⟩
    rw [upd_ne (by rw [← dD]; exact Nat.ne_of_lt lt)]
    exact (f2 b hb).1
  have st3 : tn 0 s3.heap := T.keep _ _ _ st2 fun b _ o e => by rw [hp3]; exact Heap.get?_push_of_some _ e
  have I4 := block_start I3 bo nd f3
  generalize dcl : cellsFrom (s3.heap.objs.size + 1) scope.names (cloFrom X.env.cells scope.names []) = cl at I4
  have pg := pg s3 (upd H2 D (SetO X.w D (fun _ => false) 0)) s3.heap.objs.size cl fp
  have pt := pt s3 (upd H2 D (SetO X.w D (fun _ => false) 0)) s3.heap.objs.size cl fp
  have pe := pe s3 (upd H2 D (SetO X.w D (fun _ => false) 0)) s3.heap.objs.size cl fp
  suffices st : codeAny (model X.prog X.w) X.A (.compStart (.SetComp elt [⟨tg, it, ifs, 0⟩] scope pos) 0 (.ref i0) (.ref D) (compEnvC scope cl s3.heap.objs.size X.env)) (compPost (model X.prog X.w) X.A X.xe none (EP X pins σ Q) (.ref D) s3.heap.objs.size) { s3 with heap := pushCells (s3.heap.push { cls := .type "dict", data := .dict #[] }) scope.names } by
    subst dcl
    exact st
  have none3 : ∀ b ∈ fp, (upd H2 D (SetO X.w D (fun _ => false) 0)) b = none := fun b hb => (f3 b hb).1.1
  generalize dce : compEnvC scope cl s3.heap.objs.size X.env = ce at I4 pg pt pe ⊢
  have loc : ce.locals = s3.heap.objs.size := by subst dce; rfl
  generalize upd H2 D (SetO X.w D (fun _ => false) 0) = H3 at I3 I4 pg pt pe v0 none3 f3
  generalize d4 : ({ s3 with heap := pushCells (s3.heap.push { cls := .type "dict", data := .dict #[] }) scope.names } : Shared) = s4 at I4 ⊢
  have st4 : tn 0 s4.heap := T.keep _ _ _ st3 fun b _ o e => by subst d4; exact pushCells_keeps _ _ _ _ (Heap.get?_push_of_some _ e)
  have still : ∀ {τ : L2.St} {H' : Hp} {s' : Shared}, Inv (X.blk s3 H3 scope ce fp) [] τ H' s' → (∀ b ∈ fp, H' b = none) → ∀ b ∈ fp, FpOk (X.blk s3 H3 scope ce fp) [] H' b := fun {τ H' s'} I' hn b hb =>
    ⟨hn b hb, (I'.ok.exf b hb).1, I'.ok.exfs b hb, .inl hb, fun x c e => (I'.ok.exf b hb).2 x c e, fun p hp => absurd (show p ∈ ([] : List (Addr × Obj)) ++ [] from hp) (by simp)⟩
  have loop : codeAny (model X.prog X.w) X.A (.compLoop (.SetComp elt [⟨tg, it, ifs, 0⟩] scope pos) 0 (.ref i0) (.ref D) ce) (compPost (model X.prog X.w) X.A X.xe none (EP X pins σ Q) (.ref D) s3.heap.objs.size) s4 := by
    refine PpSet.compLoopS_any (fun n s' => ∃ i H', Inv (X.blk s3 H3 scope ce fp) [] (wipe σ (own.map (·.2))) H' s' ∧ tn i s'.heap ∧ (∀ b ∈ fp, H' b = none) ∧ V i n H') ?_ m0 ⟨0, H3, I4, st4, none3, v0⟩
    rintro n s5 ⟨i, H5, I5, st5, n5, v5⟩
    rcases turn i n H5 v5 with ⟨stop, qq⟩ | ⟨go, Nx, toV, step⟩
    · refine thnF (T.done (X.blk s3 H3 scope ce fp) rfl rfl rfl c i [] s5 _ H5 (fun _ _ => False) I5 (still I5 n5) st5 stop) fun r s6 ⟨hr, I6⟩ => ?_
      subst hr
      have I7 : Inv X pins σ H5 s6 := I3.call' (ch := fp) I6.os I6.base I6.hok I6.bare fun b hb => ⟨(f3 b hb).1.2.2.2.1, (f3 b hb).1.2.1, (f3 b hb).1.2.2.2.2.1, (f3 b hb).1.2.2.2.2.2⟩
      have nC : H5 s3.heap.objs.size = none := loc ▸ (show H5 ce.locals = none from I6.free)
      obtain ⟨m, hn, _⟩ := I6.loc
      have hn : s6.heap.Ns s3.heap.objs.size m := loc ▸ (show s6.heap.Ns ce.locals m from hn)
      obtain ⟨f0, f1, g2, g3, g4, g5⟩ := I3.fpOk (Nat.le_refl _) nC
      obtain ⟨_, _, w2, w3, w4, w5⟩ : FpOk X pins H5 s3.heap.objs.size := I3.fpOk (Nat.le_refl _) nC
      exact ⟨m, hn, fun h'' sb => ⟨.ref D, H5, I7.turned (t' := s6.toks) (fun b o hb e => (sb.2 b hb).trans e) f0 f1 g3 g4 g5, rfl, qq⟩⟩
    · refine thnF (T.item (X.blk s3 H3 scope ce fp) rfl rfl rfl c i [] s5 _ H5 (fun _ _ => False) I5 (still I5 n5) st5 go) fun r s6 ⟨u, hr, h6⟩ => ?_
      subst hr
      refine thnF h6 fun _ s7 ⟨x, H7, I7, r7, y7, st7, n7⟩ => ?_
      refine thnF (pg.run _ s7 _ H7 x u _ (I7.pinned (still I7 n7) (T.obj _ _ st7)) r7 (step x H7 y7)) fun _ s8 ⟨σ8, H8, I8, hw8, q8⟩ => ?_
      refine thnF (pt.run _ s8 σ8 H8 _ I8 q8) fun b s9 ⟨H9, I9, q9⟩ => ?_
      have fin : ∀ {s' : Shared} {H' : Hp}, Inv (X.blk s3 H3 scope ce fp) ([] ++ pinsAt fp s7.heap) σ8 H' s' → Nx H' → ∃ m, m < n ∧ ∃ i H', Inv (X.blk s3 H3 scope ce fp) [] (wipe σ (own.map (·.2))) H' s' ∧ tn i s'.heap ∧ (∀ b ∈ fp, H' b = none) ∧ V i m H' := fun {s' H'} J' nx => by
        obtain ⟨m', lt, v'⟩ := toV H' nx
        have pn : ∀ b ∈ fp, ∀ o, s7.heap.get? b = some o → s'.heap.get? b = some o ∧ H' b = none := fun b hb o e => by
          have z := J'.pin (b, o) (List.mem_append_right _ (List.mem_append_right _ (mem_pinsAt hb e)))
          exact ⟨z.1, z.2.1⟩
        refine ⟨m', lt, i + 1, H', (J'.unpinned (pins := [])).weak (by rw [← hw8, wipe_length]) (fun j v e => ?_), T.keep _ _ _ st7 fun b hb o e => (pn b hb o e).1, fun b hb => ?_, v'⟩
        · rw [← hw8] at e
          exact (wipe_some e).1
        · obtain ⟨o, e, _⟩ := T.obj _ _ st7 b hb
          exact (pn b hb o e).2
      cases b with
      | false => exact fin I9 q9
      | true =>
        refine thnF (pe.run _ s9 σ8 H9 _ I9 q9) fun z s10 ⟨yv, H10, I10, r10, cc, S0, n0, ey, hD, rm, nx⟩ => ?_
        subst ey
        obtain ⟨tk, rfl⟩ := (show RelV (.int cc) z from r10)
        exact addI_ok (X := X.blk s3 H3 scope ce fp) I10 hD rm fun s11 I11 => fin I11 nx
  exact PpSet.codeAny_compStart_set loop (T.self X.A 0 _ _ _ st4 loop)
end
theorem nodup_le {α : Type} [DecidableEq α] : ∀ {us L : List α}, us.Nodup → (∀ x, x ∈ us → x ∈ L) → us.length ≤ L.length
  | [], _, _, _ => Nat.zero_le _
  | x :: us, L, nd, h => by
    have nd' := List.nodup_cons.mp nd
    have hx := h x List.mem_cons_self
    have ih : us.length ≤ (L.erase x).length := nodup_le nd'.2 fun y hy => by
      have hne : y ≠ x := fun e => nd'.1 (e ▸ hy)
      exact (List.mem_erase_of_ne hne).mpr (h y (List.mem_cons_of_mem _ hy))
    rw [List.length_erase_of_mem hx] at ih
    have : 0 < L.length := List.length_pos_of_mem hx
    rw [List.length_cons]
    omega
section
variable {K : PySem.W.Frag} {R : Rs} {B : Bs R} {g : R.G} {es : List Ent} {te : TE} {post : T → R.G → List Ent → Prop}
/-- sorted({e for x in xs}), e an int that c tells, one of L -/
theorem we_sortScI {w : World} {i : Nat} {wi : TI} (c : T → Int) (h : wI K R B wi g es fun xs g1 es1 => xs.length < 100000 ∧ (∃ L : List Int, L.length < 60 ∧ ∀ x ∈ xs, c x ∈ L) ∧ NoOwn [i] es1 ∧
    (∀ x ∈ xs, wE K R B te g1 (es1.set i (.dat x)) fun y g3 e3 => g3 = g1 ∧ e3 = es1.set i (.dat x) ∧ y = .int (c x)) ∧
    ∀ ms : List Int, ms.Pairwise (· < ·) → (∀ k, k ∈ ms ↔ k ∈ xs.map c) → post (.lst (ms.map .int)) g1 es1) :
    wE K R B (tCB (rSortedSet w) (tCons (tScI w wi (gName i) tYes te [i]) tNil)) g es post := fun F σ H ok Q q => by
  refine h F σ H ok _ fun J xs g1 es1 F1 H1 l1 ok1 src h1 => ?_
  obtain ⟨hl, ⟨L, hL, hin⟩, no, he, hp⟩ := h1
  intro D hD
  have nD : ¬ OwnA es1 σ D := fun z => (ok1.ownH z).1 hD
  refine ⟨fun n m H => m = xs.length - n ∧ n ≤ xs.length ∧ ∃ S us F2, Lc R σ g1 es1 F1 H1 g1 es1 F2 H ∧ Ok K R B g1 es1 F2 σ H ∧ Mk1 R B g1 es1 F2 σ H D (SetO w D S us.length) ∧ us.Nodup ∧ (∀ j, S j = true ↔ j ∈ us) ∧ ∀ j, j ∈ us ↔ j ∈ (xs.take n).map c, ⟨_, rfl, Nat.zero_le _, fun _ => false, [], F1, ?_⟩, ?_⟩
  · obtain ⟨tr, ii⟩ := Tr.lay (o := SetO w D (fun _ => false) 0) ok1.i hD
    exact ⟨.of tr, ok1.step tr ii, ⟨upd_same, Evl.fresh_back ok1.i.ex hD, fun z => R.pn ok1.i.res z hD, none_of ok1.t.al hD, nD⟩, .nil, fun j => by simp, fun j => by simp⟩
  rintro n m H' ⟨rfl, hn, S, us, F2, l2, ok2, mk, und, uS, uI⟩
  by_cases hlt : n < xs.length
  · refine .inr ⟨src.go g1 F2 H' ok2.i l2.f n hlt, fun H3 => ∃ S us F3, Lc R σ g1 es1 F1 H1 g1 es1 F3 H3 ∧ Ok K R B g1 es1 F3 σ H3 ∧ Mk1 R B g1 es1 F3 σ H3 D (SetO w D S us.length) ∧ us.Nodup ∧ (∀ j, S j = true ↔ j ∈ us) ∧ (∀ j, j ∈ us ↔ j ∈ (xs.take (n + 1)).map c), fun H3 ⟨S, k, F3, z⟩ => ⟨xs.length - (n + 1), by omega, rfl, hlt, S, k, F3, z⟩, fun v H3 y => ?_⟩
    obtain ⟨t, F3, ht, tr, ii, r⟩ := src.yld g1 F2 H' ok2.i l2.f n v H3 hlt y
    have ok3 := ok2.step tr ii
    have mk3 := mk.lc (.of (σ := σ) tr)
    have l3 : Lc R σ g1 es1 F1 H1 g1 es1 F3 H3 := l2.trans (.of tr)
    have eb : (wipeE es1 [i]).set i (.dat t) = es1.set i (.dat t) := by
      show (es1.set i .any).set i (.dat t) = es1.set i (.dat t)
      rw [List.set_set]
    have okb : Ok K R B g1 (es1.set i (.dat t)) F3 ((wipe σ [i]).set i (some v)) H3 := eb ▸ (ok3.wipe [i]).set r
    have off : Off [i] (wipe σ [i]) ((wipe σ [i]).set i (some v)) := .set (List.mem_singleton.mpr rfl)
    have offσ : Off [i] σ ((wipe σ [i]).set i (some v)) := (Off.wipe [i] σ).trans off
    have offe : OffE [i] es1 (es1.set i (.dat t)) := ⟨by simp, fun j hj => List.getElem?_set_ne fun e => hj (by rw [e]; exact List.mem_singleton.mpr rfl)⟩
    have nob : NoOwn [i] (es1.set i (.dat t)) := fun j e hj hje => by
      cases (List.mem_singleton.mp hj)
      rcases set_get hje with ⟨_, rfl, _⟩ | ⟨ne, _⟩
      · rfl
      · exact absurd rfl ne
    refine ⟨by rw [wipe_off off, wipe_off (Off.wipe [i] σ)], ?_⟩
    refine he t (List.mem_of_getElem? ht) F3 _ H3 okb _ fun yv y g5 e5 F5 H5 l5 ok5 ry h5 => ?_
    obtain ⟨rfl, rfl, rfl⟩ := h5
    cases ry
    have l5' : Lc R σ g5 es1 F3 H3 g5 es1 F5 H5 := l5.back offσ offe nob
    have mk5 := mk3.lc l5'
    have okE : Ok K R B g5 es1 F5 σ H5 := ok3.back ok5 l5.f offσ offe no
    have l6 := l3.trans l5'
    have e1 : xs.take (n + 1) = xs.take n ++ [t] := by rw [List.take_add_one, ht] <;> rfl
    have ul : us.length ≤ L.length := nodup_le und fun j hj => by
      obtain ⟨x, hx, rfl⟩ := List.mem_map.mp ((uI j).mp hj)
      exact hin x (List.mem_of_mem_take hx)
    refine ⟨c t, S, us.length, rfl, mk5.at_, Nat.lt_of_le_of_lt (show us.length + 1 ≤ 61 by omega) (by decide), fun j => S j || decide (j = c t), if S (c t) = true then us else c t :: us, F5, ?_, ?_, ?_, ?_, fun j => ?_, fun j => ?_⟩
    · refine ⟨l6.f, l6.nw, fun a o z m n => ?_, fun a z => ?_, l6.pp, l6.mm, l6.ow⟩
      · rw [upd_ne (ne_of_none z hD)]
        exact l6.kp a o z m n
      · obtain ⟨u, z'⟩ := some_of z
        rw [upd_ne (ne_of_none z' hD)]
        exact l6.al a z
    · exact okE.put mk5.nf mk5.np mk5.nb mk5.no
    · have el : (if S (c t) = true then us else c t :: us).length = if S (c t) = true then us.length else us.length + 1 := by split <;> rfl
      rw [el]
      exact ⟨upd_same, mk5.nf, mk5.np, mk5.nb, mk5.no⟩
    · split
      · exact und
      · rename_i hc
        exact List.nodup_cons.mpr ⟨fun z => hc ((uS _).mpr z), und⟩
    · rw [Bool.or_eq_true, uS j, decide_eq_true_eq]
      split
      · rename_i hc
        exact ⟨fun z => z.elim id fun z => z ▸ (uS _).mp hc, .inl⟩
      · rw [List.mem_cons]
        exact Or.comm
    · rw [e1, List.map_append, List.mem_append, ← uI j]
      split
      · rename_i hc
        refine ⟨.inl, fun z => z.elim id fun z => ?_⟩
        rw [List.mem_singleton.mp z]
        exact (uS _).mp hc
      · rw [List.mem_cons, List.map_singleton, List.mem_singleton]
        exact Or.comm
  · have e : n = xs.length := by omega
    subst e
    refine .inl ⟨src.stop g1 F2 H' ok2.i l2.f _ (Nat.le_refl _), ?_⟩
    have ul : us.length ≤ L.length := nodup_le und fun j hj => by
      obtain ⟨x, hx, rfl⟩ := List.mem_map.mp ((uI j).mp hj)
      exact hin x (List.mem_of_mem_take hx)
    refine ⟨D, S, us.length, rfl, mk.at_, by omega, fun ms l hs hm _ hl2 => ?_⟩
    obtain ⟨tr2, i2⟩ := Tr.new (o := .lst (ms.map V.int)) ok2.i hl2
    exact q _ (.lst (ms.map .int)) g1 es1 _ _ ((l1.trans l2).trans (.of tr2)) (ok2.step tr2 i2) (.lst (Evl.sq_of upd_same) (.of_ints _ _)) (hp ms hs fun k => by rw [hm, uS, uI, List.take_length])
end
end Zc
/-! Zu: lists joined, slices, displays of dicts, gcd, repr; tables. -/
namespace Zc
open PySem PySem.Spec PyProof.Rows L2
def rCatL (K : PySem.W.Frag) : R2 := fun x y H Q => ∃ a b xs ys, x = .ref a ∧ y = .ref b ∧ SqL K H a xs ∧ SqL K H b ys ∧ xs.length + ys.length ≤ sizeLine ∧ ∀ p, H p = none → Q (.ref p) (upd H p (.lst (xs ++ ys)))
theorem op_catL {X : Cx} : OpR X (binaryOp .Add) (rCatL X.K) := by
  intro pins s σ H x y v u Q I rx ry h
  obtain ⟨a, b, xs, ys, rfl, rfl, ha, hb, hz, q⟩ := h
  cases rx
  cases ry
  obtain ⟨i1, r1, ⟨⟨c1, e1, t1, l1⟩, n1, ho1, hc1, _, hd1⟩, _⟩ := I.list ha
  obtain ⟨i2, r2, ⟨⟨c2, e2, t2, l2⟩, n2, ho2, hc2, _, hd2⟩, _⟩ := I.list hb
  simp only at hc1 hd1 hc2 hd2
  subst hc1 hd1 hc2 hd2
  have m1 := r1.length
  have m2 := r2.length
  refine concat_meets ⟨_, ho1, rfl⟩ ⟨_, ho2, rfl⟩ noFill_list_add seq_list_add PySem.F.slot_list_add PySem.F.entry_list_add (PySem.F.args_list_add_2 _ _) (list_addW a b i1.toArray i2.toArray n1 n2 e1 e2 l1 l2 (by rw [List.size_toArray, List.size_toArray]; omega)) ⟨ho1, ho2, ?_⟩
  have jn : i1.toArray ++ i2.toArray = (i1 ++ i2).toArray := by simp
  rw [jn]
  exact ⟨.ref _, _, I.lnew (t' := s.toks) (r1.append r2) (by rw [List.length_append]; omega), rfl, q _ I.fresh⟩
theorem catLK {X : Cx} {K : PySem.W.Frag} (h : X.K = K := by rfl) : OpR X (binaryOp .Add) (rCatL K) := h ▸ op_catL
theorem gcdK {X : Cx} : CallR X (.builtin "math.gcd") rGcd := cr_gcd
theorem reprK {X : Cx} {K : PySem.W.Frag} (hg : X.A.guards = some []) (hu : X.A.units + 100 < cLine) (h : X.K = K := by rfl) : CallR X (.builtin "repr") (rRepr K) := h ▸ cr_repr hg hu
def cutG {α : Type} (xs : List α) (lo hi : Option Int) : List α := (xs.drop (HT.sIx xs.length 0 lo)).take (HT.sIx xs.length xs.length hi - HT.sIx xs.length 0 lo)
section
variable {K : PySem.W.Frag} {R : Rs} {B : Bs R} {g : R.G} {es : List Ent} {ta te : TE} {F : Hp} {p : T → Prop} {post : T → R.G → List Ent → Prop} {po : Option Int → R.G → List Ent → Prop} {nx bk ct : R.G → List Ent → Prop} {rt : T → R.G → Prop}
theorem wr_catL {xs ys : List T} (hl : xs.length + ys.length ≤ sizeLine) (h : p (.lst (xs ++ ys))) : wR K R (rCatL K) (.lst xs) (.lst ys) p := fun g F H vx vy ii rx ry Q q => by
  cases rx with
  | lst h1 r1 => cases ry with
    | lst h2 r2 =>
      have n1 := r1.length
      have n2 := r2.length
      refine ⟨_, _, _, _, rfl, rfl, Evl.ex_l ii.ex h1, Evl.ex_l ii.ex h2, by omega, fun pp hp => ?_⟩
      obtain ⟨tr, i2⟩ := Tr.new (o := .lst (_ ++ _)) ii hp
      exact q _ (.lst (xs ++ ys)) _ _ tr i2 (.lst (Evl.sq_of upd_same) ((r1.append r2).up tr.f)) h
theorem wc_gcd {a b : Int} (h : p (.int ((Nat.gcd a.natAbs b.natAbs : Nat) : Int))) : wC K R rGcd [.int a, .int b] p := fun g F H vx ii rx Q q => by
  cases rx with
  | cons r1 r => cases r with
    | cons r2 r => cases r with
      | nil =>
        cases r1
        cases r2
        exact ⟨a, b, rfl, q _ _ F H .refl ii (.int _) h⟩
theorem wc_repr {t : T} (tp : t.prTop = true) (nr : t.noraw = true) (sh : t.pr.showable = true) (dp : t.pr.depth ≤ 20) (sz : t.pr.shown.length ≤ sizeLine) (h : p (.str t.pr.shown)) : wC K R (rRepr K) [t] p := fun g F H vx ii rx Q q => by
  cases rx with
  | cons r1 r => cases r with
    | nil => exact ⟨F, _, t, rfl, ii.ex, r1, tp, nr, sh, dp, sz, q _ _ F H .refl ii (.str _) h⟩
/-! ### slices -/
theorem wo_none (h : po none g es) : wO K R B tNoPart g es po := fun F σ H ok Q q => q _ _ _ _ _ .refl ok h
theorem wo_some (h : wE K R B te g es fun t g1 es1 => ∃ i, t = .int i ∧ po (some i) g1 es1) : wO K R B (tPart te) g es po := fun F σ H ok Q q => by
  refine h F σ H ok _ fun v t g1 es1 F1 H1 l1 ok1 r h1 => ?_
  obtain ⟨i, rfl, h1⟩ := h1
  cases r
  exact ⟨i, rfl, q _ _ _ _ _ l1 ok1 h1⟩
theorem Reps.cut {vs : List V} {ts : List T} (h : Reps K F vs ts) (lo hi : Option Int) : Reps K F (cutV vs lo hi) (cutG ts lo hi) := by
  unfold cutV cutG
  rw [h.length]
  exact (h.drop _).take _
theorem cutG_whole {α : Type} {xs : List α} {lo hi : Option Int} (h : HT.sIx xs.length 0 lo = 0 ∧ HT.sIx xs.length xs.length hi = xs.length) : cutG xs lo hi = xs := by
  unfold cutG
  rw [h.1, h.2]
  simp
theorem we_slL {tl th : TO} (h : wE K R B ta g es fun x g1 es1 => wO K R B tl g1 es1 fun lo g2 es2 => wO K R B th g2 es2 fun hi g3 es3 => ∃ ts, x = .lst ts ∧ post (.lst (cutG ts lo hi)) g3 es3) : wE K R B (tSl (rSlL K) ta tl th) g es post := fun F σ H ok Q q => by
  refine h F σ H ok _ fun vx x g1 es1 F1 H1 l1 ok1 rx h1 => ?_
  refine h1 F1 σ H1 ok1 _ fun lo g2 es2 F2 H2 l2 ok2 h2 => ?_
  refine h2 F2 σ H2 ok2 _ fun hi g3 es3 F3 H3 l3 ok3 h3 => ?_
  obtain ⟨ts, rfl, hp⟩ := h3
  cases rx with
  | lst hs rs =>
    refine ⟨_, _, rfl, Evl.ex_l ok3.i.ex (Evl.ex_l (l2.f.trans l3.f) hs), fun pp hpp => ?_⟩
    obtain ⟨tr, i2⟩ := Tr.new (o := .lst (cutV _ lo hi)) ok3.i hpp
    exact q _ _ g3 es3 _ _ (((l1.trans l2).trans l3).trans (.of tr)) (ok3.step tr i2) (.lst (Evl.sq_of upd_same) ((rs.cut lo hi).up ((l2.f.trans l3.f).trans tr.f))) hp
theorem we_slT {tl th : TO} (h : wE K R B ta g es fun x g1 es1 => wO K R B tl g1 es1 fun lo g2 es2 => wO K R B th g2 es2 fun hi g3 es3 => ∃ ts, x = .tup ts ∧ post (.tup (cutG ts lo hi)) g3 es3) : wE K R B (tSl (rSlA K) ta tl th) g es post := fun F σ H ok Q q => by
  refine h F σ H ok _ fun vx x g1 es1 F1 H1 l1 ok1 rx h1 => ?_
  refine h1 F1 σ H1 ok1 _ fun lo g2 es2 F2 H2 l2 ok2 h2 => ?_
  refine h2 F2 σ H2 ok2 _ fun hi g3 es3 F3 H3 l3 ok3 h3 => ?_
  obtain ⟨ts, rfl, hp⟩ := h3
  cases rx with
  | tup hs rs =>
    have rs3 := rs.up (l2.f.trans l3.f)
    refine ⟨_, _, rfl, Evl.ex_t ok3.i.ex (Evl.ex_t (l2.f.trans l3.f) hs), fun hw => ?_, fun _ pp hpp => ?_⟩
    · rw [rs.length] at hw
      rw [cutG_whole hw] at hp
      exact q _ _ g3 es3 _ _ ((l1.trans l2).trans l3) ok3 (.tup (Evl.ex_t (l2.f.trans l3.f) hs) rs3) hp
    · obtain ⟨tr, i2⟩ := Tr.new (o := .tup (cutV _ lo hi)) ok3.i hpp
      exact q _ _ g3 es3 _ _ (((l1.trans l2).trans l3).trans (.of tr)) (ok3.step tr i2) (.tup (Evl.st_of upd_same) ((rs3.cut lo hi).up tr.f)) hp
/-! ### {k: v, ..} -/
def mergeT (kvs more : List (Key × T)) : List (Key × T) := more.foldl (fun acc kv => putT acc kv.1 kv.2) kvs
theorem RepK.merge : ∀ {more : List (Key × V)} {ms : List (Key × T)} {kvs : List (Key × V)} {ts : List (Key × T)}, RepK K F more ms → RepK K F kvs ts → RepK K F (mergeK kvs more) (mergeT ts ms)
  | _, _, _, _, .nil, h => h
  | _, _, _, _, .cons (k := k) a b, h => by
    have := RepK.merge b (h.put (k := k) a)
    exact this
def wP (K : PySem.W.Frag) (R : Rs) (B : Bs R) (trs : List (TE × TE)) (g : R.G) (es : List Ent) (post : List (Key × T) → R.G → List Ent → Prop) : Prop :=
  ∀ F σ H, Ok K R B g es F σ H → ∀ Q : List (V × V) → Hp → Prop, (∀ (kvs : List (Key × V)) (ts : List (Key × T)) g' es' F' H', Lc R σ g es F H g' es' F' H' → Ok K R B g' es' F' σ H' → RepK K F' kvs ts → post ts g' es' → Q (kvs.map fun kv => (kV kv.1, kv.2)) H') → tPairs trs σ H Q
theorem wp_nil {pk : List (Key × T) → R.G → List Ent → Prop} (h : pk [] g es) : wP K R B [] g es pk := fun F σ H ok Q q => q [] [] _ _ _ _ .refl ok .nil h
theorem wp_cons {tk tv : TE} {trs : List (TE × TE)} {pk : List (Key × T) → R.G → List Ent → Prop} (h : wE K R B tk g es fun x g1 es1 => ∃ k, x.key = some k ∧ wE K R B tv g1 es1 fun y g2 es2 => wP K R B trs g2 es2 fun ts g3 es3 => pk ((k, y) :: ts) g3 es3) :
    wP K R B ((tk, tv) :: trs) g es pk := fun F σ H ok Q q => by
  refine h F σ H ok _ fun vx x g1 es1 F1 H1 l1 ok1 rx h1 => ?_
  obtain ⟨k, hk, h1⟩ := h1
  refine h1 F1 σ H1 ok1 _ fun vy y g2 es2 F2 H2 l2 ok2 ry h2 => ?_
  refine h2 F2 σ H2 ok2 _ fun kvs ts g3 es3 F3 H3 l3 ok3 rk h3 => ?_
  have := q ((k, vy) :: kvs) ((k, y) :: ts) g3 es3 F3 H3 ((l1.trans l2).trans l3) ok3 (.cons (ry.up l3.f) rk) h3
  rw [rx.key hk]
  exact this
theorem wq_setDisp {i : Nat} {trs : List (TE × TE)} (h : wP K R B trs g es fun ts g' es' => ts.length ≤ 15 ∧ nx g' (es'.set i (.dk (mergeT [] ts)))) : wQ K R B (tAsg (tDisp trs) (gName i)) g es nx rt bk ct := fun F σ H ok D d => fun D0 hD => by
  obtain ⟨tr, ii⟩ := Tr.lay (o := .dK []) ok.i hD
  have ok1 := ok.step tr ii
  have nD : ¬ OwnA es σ D0 := fun z => (ok.ownH z).1 hD
  have mk : Mk1 R B g es F σ (upd H D0 (.dK [])) D0 (.dK []) := ⟨upd_same, Evl.fresh_back ok.i.ex hD, fun z => R.pn ok.i.res z hD, none_of ok.t.al hD, nD⟩
  refine h F σ _ ok1 _ fun kvs ts g2 es2 F2 H2 l2 ok2 rk h2 => ?_
  have mk2 := mk.lc l2
  refine ⟨mk2.at_, kvs, rfl, by rw [rk.length]; exact h2.1, ?_⟩
  have ok3 := ok2.put (o := .dK (mergeK [] kvs)) mk2.nf mk2.np mk2.nb mk2.no
  exact d.nx _ _ _ _ _ l2.f (ok3.setOwn (i := i) (a := D0) (e := .dk (mergeT [] ts)) ⟨D0, _, rfl, upd_same, mk2.nf, mk2.np, mk2.nb, RepK.merge rk .nil⟩ mk2.no) h2.2
end
/-! ### tables -/
theorem valT_map (kvs : List (Key × T)) (k j : Key) (y : T) : valT (kvs.map fun kv => if kv.1 = k then (kv.1, y) else kv) j = (valT kvs j).map fun x => if j = k then y else x := by
  unfold valT
  induction kvs with
  | nil => rfl
  | cons kv kvs ih =>
    rw [List.map_cons, List.find?_cons, List.find?_cons]
    by_cases e : kv.1 = k
    · rw [if_pos e]
      by_cases ej : kv.1 = j
      · have : j = k := ej.symm.trans e
        simp [ej, this]
      · simp only [ej, decide_false]
        exact ih
    · rw [if_neg e]
      by_cases ej : kv.1 = j
      · have : ¬ j = k := fun z => e (ej.trans z)
        simp [ej, this]
      · simp only [ej, decide_false]
        exact ih
theorem valT_any (kvs : List (Key × T)) (k : Key) : (kvs.any fun kv => decide (kv.1 = k)) = (valT kvs k).isSome := by
  unfold valT
  induction kvs with
  | nil => rfl
  | cons kv kvs ih =>
    rw [List.any_cons, List.find?_cons]
    by_cases e : kv.1 = k
    · simp [e]
    · simp only [e, decide_false, Bool.false_or]
      exact ih
theorem valT_app (kvs : List (Key × T)) (k j : Key) (y : T) (h : valT kvs k = none) : valT (kvs ++ [(k, y)]) j = if j = k then some y else valT kvs j := by
  unfold valT at h ⊢
  rw [List.find?_append]
  by_cases e : j = k
  · subst e
    rw [if_pos rfl]
    have : (kvs.find? fun kv => decide (kv.1 = j)) = none := by simpa using h
    rw [this]
    simp
  · rw [if_neg e]
    have e' : ¬ k = j := fun z => e z.symm
    simp [e']
theorem valT_put (kvs : List (Key × T)) (k j : Key) (y : T) : valT (putT kvs k y) j = if j = k then some y else valT kvs j := by
  unfold putT
  by_cases a : (kvs.any fun kv => decide (kv.1 = k)) = true
  · rw [if_pos a, valT_map]
    rw [valT_any] at a
    by_cases e : j = k
    · subst e
      obtain ⟨x, hx⟩ := Option.isSome_iff_exists.mp a
      rw [hx]
      simp
    · rw [if_neg e]
      simp [e]
  · rw [if_neg a]
    rw [valT_any] at a
    exact valT_app _ _ _ _ (by simpa using a)
theorem putT_len (kvs : List (Key × T)) (k : Key) (y : T) : (putT kvs k y).length ≤ kvs.length + 1 := by
  unfold putT
  split
  · rw [List.length_map]
    omega
  · simp
end Zc
/-! Bq: the nodes that are reached, each behind those that it leads to, in plain Lean. -/
namespace Zc
open PySem L2
def kids (ns : List Nd) (c : Nat) : List Nat := match node ns c with
  | none => []
  | some n => [n.w, n.t].filter fun k => decide (1 < k)
inductive Sub (ns : List Nd) (c : Nat) : Nat → Prop
  | refl : Sub ns c c
  | step {i j : Nat} : Sub ns c i → j ∈ kids ns i → Sub ns c j
structure Topo (ns : List Nd) (l : List Nat) : Prop where
  nd : l.Nodup
  rg : ∀ i, i ∈ l → 2 ≤ i ∧ i < ns.length + 2
  bf : ∀ (k i j : Nat), l[k]? = some i → j ∈ kids ns i → j ∈ l.take k
structure Reached (ns : List Nd) (cs l : List Nat) : Prop where
  tp : Topo ns l
  sub : ∀ i, i ∈ l → ∃ c, c ∈ cs ∧ Sub ns c i
  all : ∀ c, c ∈ cs → 1 < c → c ∈ l
theorem kids_lt {ns : List Nd} (g : Good ns) {i j : Nat} (h : j ∈ kids ns i) : 1 < j ∧ j < i := by
  unfold kids at h
  cases hn : node ns i with
  | none =>
    rw [hn] at h
    cases h
  | some n =>
    rw [hn] at h
    obtain ⟨h1, h2⟩ := List.mem_filter.mp h
    obtain ⟨k1, k2, _⟩ := g.kids hn
    refine ⟨of_decide_eq_true h2, ?_⟩
    rcases List.mem_cons.mp h1 with rfl | h1
    · exact k1
    · cases List.mem_singleton.mp h1
      exact k2
theorem Sub.lt {ns : List Nd} (g : Good ns) {c i N : Nat} (h : Sub ns c i) (hc : c < N) : i < N := by
  induction h with
  | refl => exact hc
  | step _ hj ih => exact Nat.lt_trans (kids_lt g hj).2 ih
/-- the found ones with one more -/
def addN (fl : List Nat) (t : Nat) : List Nat := if t ∈ fl then fl else fl ++ [t]
def addF (fl : List Nat) (t : Nat) : List Nat := if 1 < t then addN fl t else fl
/-- what waits, the last one first -/
def Stk (ns : List Nd) (c : Nat) (fl : List Nat) : List Nat → Prop
  | [] => 1 < c → c ∈ fl
  | [x] => x = c
  | x :: y :: r => x ∈ kids ns y ∧ x ∉ fl ∧ Stk ns c fl (y :: r)
theorem Stk.sub {ns : List Nd} {c : Nat} {fl : List Nat} : ∀ {st : List Nat} {x : Nat}, Stk ns c fl (x :: st) → Sub ns c x
  | [], _, h => (show _ = c from h) ▸ .refl
  | _ :: _, _, h => .step (Stk.sub h.2.2) h.1
theorem Stk.len {ns : List Nd} (g : Good ns) {c : Nat} {fl : List Nat} : ∀ {st : List Nat} {x : Nat}, Stk ns c fl (x :: st) → x + st.length ≤ c
  | [], _, h => Nat.le_of_eq h
  | y :: st, x, h => by
    have := Stk.len g h.2.2
    have := (kids_lt g h.1).2
    rw [List.length_cons]
    omega
theorem Stk.grow {ns : List Nd} (g : Good ns) {c t : Nat} {fl : List Nat} : ∀ {st : List Nat} {x : Nat}, Stk ns c fl (x :: st) → t < x → Stk ns c (fl ++ [t]) (x :: st)
  | [], _, h, _ => h
  | y :: st, x, h, lt => by
    refine ⟨h.1, fun z => ?_, Stk.grow g h.2.2 (Nat.lt_trans lt (kids_lt g h.1).2)⟩
    rcases List.mem_append.mp z with z | z
    · exact h.2.1 z
    · rw [List.mem_singleton.mp z] at lt
      exact Nat.lt_irrefl _ lt
theorem Stk.pop {ns : List Nd} (g : Good ns) {c t : Nat} {fl st : List Nat} (h : Stk ns c fl (t :: st)) : Stk ns c (addF fl t) st := by
  cases st with
  | nil =>
    have e : t = c := h
    subst e
    show 1 < t → t ∈ addF fl t
    intro h1
    unfold addF addN
    rw [if_pos h1]
    split
    · assumption
    · simp
  | cons y st =>
    obtain ⟨h1, h2, h3⟩ := h
    have hk := kids_lt g h1
    unfold addF addN
    rw [if_pos hk.1, if_neg h2]
    exact h3.grow g hk.2
theorem Stk.stay {ns : List Nd} {c t : Nat} {fl st : List Nat} (h : Stk ns c fl (t :: st)) (hs : t ∈ fl ∨ t ≤ 1) (g : Good ns) : st = [] := by
  cases st with
  | nil => rfl
  | cons y st =>
    have := (kids_lt g h.1).1
    rcases hs with z | z
    · exact absurd z h.2.1
    · omega
theorem topo_add {ns : List Nd} {fl : List Nat} {t : Nat} (tp : Topo ns fl) (h1 : 1 < t) (h2 : t < ns.length + 2) (hk : ∀ j, j ∈ kids ns t → j ∈ fl) : Topo ns (addN fl t) := by
  unfold addN
  split
  · exact tp
  · rename_i hn
    refine ⟨List.nodup_append.mpr ⟨tp.nd, List.pairwise_singleton _ t, fun x hx y hy => ?_⟩, fun i hi => ?_, fun k i j hi hj => ?_⟩
    · cases List.mem_singleton.mp hy
      rintro rfl
      exact hn hx
    · rcases List.mem_append.mp hi with hi | hi
      · exact tp.rg i hi
      · cases List.mem_singleton.mp hi
        exact ⟨h1, h2⟩
    · by_cases hl : k < fl.length
      · rw [List.getElem?_append_left hl] at hi
        rw [List.take_append_of_le_length (Nat.le_of_lt hl)]
        exact tp.bf k i j hi hj
      · rw [List.getElem?_append_right (by omega)] at hi
        have hk0 : k - fl.length = 0 := by
          have := (List.getElem?_eq_some_iff.mp hi).1
          simp at this
          exact this
        rw [hk0] at hi
        simp at hi
        subst hi
        have : k = fl.length := by omega
        subst this
        rw [List.take_append_of_le_length (Nat.le_refl _), List.take_length]
        exact hk j hj
theorem mem_addN {fl : List Nat} {t i : Nat} : i ∈ addN fl t ↔ i ∈ fl ∨ i = t := by
  unfold addN
  split
  · rename_i h
    exact ⟨.inl, fun z => z.elim id fun z => z ▸ h⟩
  · simp
theorem Topo.len {ns : List Nd} {fl : List Nat} (tp : Topo ns fl) : fl.length ≤ ns.length := by
  have := nodup_le (us := fl) (L := (List.range ns.length).map (· + 2)) tp.nd fun x hx => by
    have := tp.rg x hx
    exact List.mem_map.mpr ⟨x - 2, List.mem_range.mpr (by omega), by omega⟩
  simpa using this
/-- how much is left -/
def left (N : Nat) (fl st : List Nat) : Nat := (N - fl.length) * (2 * N + 4) + if st = [] then 0 else N + 1 - st.length
theorem left_push {N : Nat} {fl st : List Nat} {p t : Nat} (h : st.length + 2 ≤ N) : left N fl (p :: t :: st) < left N fl (t :: st) := by
  unfold left
  rw [if_neg (by simp), if_neg (by simp)]
  simp only [List.length_cons]
  omega
theorem left_pop {N : Nat} {fl st : List Nat} {t : Nat} (h : fl.length < N) (hl : st.length + 1 ≤ N) : left N (fl ++ [t]) st < left N fl (t :: st) := by
  unfold left
  rw [if_neg (show ¬ t :: st = [] by simp), List.length_append, List.length_singleton]
  obtain ⟨m, hm⟩ : ∃ m, N - fl.length = m + 1 := ⟨N - fl.length - 1, by omega⟩
  have hm2 : N - (fl.length + 1) = m := by omega
  rw [hm, hm2, Nat.succ_mul m]
  split <;> simp only [List.length_cons] <;> omega
theorem left_end {N : Nat} {fl : List Nat} {t : Nat} (h : 1 ≤ N) : left N fl [] < left N fl [t] := by
  unfold left
  rw [if_pos rfl, if_neg (by simp)]
  simp only [List.length_cons, List.length_nil]
  omega
/-- the dict of the found ones -/
def fT (fl : List Nat) : List (Key × T) := fl.map fun i : Nat => (Sum.inl (i : Int), T.bl true)
theorem fT_val (fl : List Nat) (p : Nat) : (valT (fT fl) (Sum.inl (p : Int))).isSome = decide (p ∈ fl) := by
  rw [← valT_any]
  unfold fT
  rw [List.any_map]
  by_cases h : p ∈ fl
  · rw [decide_eq_true h]
    exact List.any_eq_true.mpr ⟨p, h, decide_eq_true rfl⟩
  · rw [decide_eq_false h]
    refine List.any_eq_false.mpr fun x hx => ?_
    simp only [Function.comp]
    intro z
    have z := of_decide_eq_true z
    injection z with z
    have : x = p := by omega
    exact h (this ▸ hx)
theorem fT_put (fl : List Nat) (t : Nat) : putT (fT fl) (Sum.inl (t : Int)) (.bl true) = fT (addN fl t) := by
  unfold putT addN
  rw [valT_any, fT_val]
  by_cases h : t ∈ fl
  · rw [decide_eq_true h, if_pos rfl, if_pos h]
    unfold fT
    rw [List.map_map]
    refine List.map_congr_left fun x hx => ?_
    simp only [Function.comp]
    split <;> rfl
  · rw [decide_eq_false h, if_neg Bool.false_ne_true, if_neg h]
    simp [fT]
theorem fT_keys (fl : List Nat) : (fT fl).map (fun kv => keyT kv.1) = natT fl := by
  unfold fT natT
  rw [List.map_map]
  rfl
theorem fT_len (fl : List Nat) : (fT fl).length = fl.length := by simp [fT]
theorem natT_snoc' (fl : List Nat) (t : Nat) : natT fl ++ [.int (t : Int)] = natT (fl ++ [t]) := by simp [natT]
theorem natT_len (fl : List Nat) : (natT fl).length = fl.length := by simp [natT]
/-! ### promises -/
def p_parts {R : Rs} {C : Addr} {E : List Int} (hs : HasStore R C E) : DSp R := fun ts g post => ∃ (s : SG) (c : Nat), ts = [.raw (.ref s.a), .int (c : Int)] ∧ hs.sg g = some s ∧ c < s.ns.length + 2 ∧ post (.lst (natT (kids s.ns c))) g
def p_reached {R : Rs} {C : Addr} {E : List Int} (hs : HasStore R C E) : DSp R := fun ts g post => ∃ (s : SG) (cs : List Nat), ts = [.raw (.ref s.a), .lst (natT cs)] ∧ hs.sg g = some s ∧ (s.Ok E ∧ (∀ c, c ∈ cs → c < s.ns.length + 2) ∧ s.ns.length + 10 < sizeLine) ∧ ∀ l, Reached s.ns cs l → post (.lst (natT l)) g
/-- what a number asks about -/
def Asks (ns : List Nd) (c : Nat) (e : Int) : Prop := ∃ i n, Sub ns c i ∧ node ns i = some n ∧ n.e = e
def p_depends {R : Rs} {C : Addr} {E : List Int} (hs : HasStore R C E) : DSp R := fun ts g post => ∃ (s : SG) (c : Nat), ts = [.raw (.ref s.a), .int (c : Int)] ∧ hs.sg g = some s ∧ (s.Ok E ∧ c < s.ns.length + 2 ∧ s.ns.length + 10 < 100000 ∧ E.length < 60) ∧
  ∀ ms : List Int, ms.Pairwise (· < ·) → (∀ e, e ∈ ms ↔ Asks s.ns c e) → post (.lst (ms.map .int)) g
def p_holds {R : Rs} {C : Addr} {E : List Int} (hs : HasStore R C E) : DSp R := fun ts g post => ∃ (s : SG) (c : Nat) (ps : List Int), ts = [.raw (.ref s.a), .int (c : Int), .lst (ps.map .int)] ∧ hs.sg g = some s ∧ (s.Ok E ∧ c < s.ns.length + 2) ∧ post (.bl (den s.ns c fun e => decide (e ∈ ps))) g
end Zc
namespace Zc
open PySem L2
theorem Topo.nil {ns : List Nd} : Topo ns [] := ⟨.nil, (fun _ h => nomatch h), fun k i j h => by simp at h⟩
theorem Reached.nil {ns : List Nd} : Reached ns [] [] := ⟨.nil, (fun _ h => nomatch h), (fun _ h => nomatch h)⟩
/-- while one more is walked -/
structure Reach1 (ns : List Nd) (cs : List Nat) (c : Nat) (l : List Nat) : Prop where
  tp : Topo ns l
  sub : ∀ i, i ∈ l → (∃ c', c' ∈ cs ∧ Sub ns c' i) ∨ Sub ns c i
  all : ∀ c', c' ∈ cs → 1 < c' → c' ∈ l
theorem Reached.one {ns : List Nd} {cs l : List Nat} {c : Nat} (r : Reached ns cs l) : Reach1 ns cs c l := ⟨r.tp, fun i h => .inl (r.sub i h), r.all⟩
theorem Reach1.done {ns : List Nd} {cs l : List Nat} {c m : Nat} (r : Reach1 ns (cs.take m) c l) (hc : cs[m]? = some c) (h : 1 < c → c ∈ l) : Reached ns (cs.take (m + 1)) l := by
  have e : cs.take (m + 1) = cs.take m ++ [c] := by rw [List.take_add_one, hc] <;> rfl
  rw [e]
  refine ⟨r.tp, fun i hi => ?_, fun c' h1 h2 => ?_⟩
  · rcases r.sub i hi with ⟨c', h1, h2⟩ | h1
    · exact ⟨c', List.mem_append_left _ h1, h2⟩
    · exact ⟨c, by simp, h1⟩
  · rcases List.mem_append.mp h1 with h1 | h1
    · exact r.all c' h1 h2
    · cases List.mem_singleton.mp h1
      exact h h2
theorem Reach1.add {ns : List Nd} {cs l : List Nat} {c t : Nat} (r : Reach1 ns cs c l) (g : Good ns) (hs : Sub ns c t) (ht : t < ns.length + 2) (hk : ∀ j, j ∈ kids ns t → j ∈ l) : Reach1 ns cs c (addF l t) := by
  unfold addF
  split
  · rename_i h1
    refine ⟨topo_add r.tp h1 ht hk, fun i hi => ?_, fun c' a b => mem_addN.mpr (.inl (r.all c' a b))⟩
    rcases mem_addN.mp hi with hi | rfl
    · exact r.sub i hi
    · exact .inr hs
  · exact r
theorem natT_get {cs : List Nat} {m : Nat} {x : T} (h : (natT cs)[m]? = some x) : ∃ c, cs[m]? = some c ∧ x = .int (c : Int) := by
  unfold natT at h
  rw [List.getElem?_map] at h
  cases q : cs[m]? with
  | none =>
    rw [q] at h
    cases h
  | some c =>
    rw [q] at h
    exact ⟨c, rfl, (Option.some.inj h).symm⟩
theorem atI_last {xs : List T} {x : T} : atI (xs ++ [x]) (-1) = some x := by
  unfold atI ixN
  rw [if_neg (by omega), if_pos (by rw [List.length_append, List.length_singleton]; omega)]
  have : (-1 + (((xs ++ [x]).length : Nat) : Int)).toNat = xs.length := by
    rw [List.length_append, List.length_singleton]
    omega
  rw [this]
  simp
theorem kids_len {ns : List Nd} {c : Nat} : (kids ns c).length ≤ 2 := by
  unfold kids
  cases node ns c with
  | none => exact Nat.zero_le _
  | some n => exact Nat.le_trans (List.length_filter_le ..) (Nat.le_refl 2)
def notF (fl : List Nat) : T → Bool
  | .int k => !decide (k.toNat ∈ fl)
  | _ => false
theorem natT_filter {fl : List Nat} : ∀ ks : List Nat, ((natT ks).filter (notF fl)).map id = natT (ks.filter fun k => !decide (k ∈ fl))
  | [] => rfl
  | k :: ks => by
    have ih := natT_filter (fl := fl) ks
    rw [List.map_id] at ih ⊢
    show (T.int (k : Int) :: natT ks).filter _ = _
    rw [List.filter_cons, List.filter_cons, ih]
    show (if (!decide ((k : Int).toNat ∈ fl)) = true then _ else _) = _
    rw [Int.toNat_natCast]
    split <;> rfl
end Zc
namespace Zc
open PySem L2
theorem kids_node {ns : List Nd} {i j : Nat} (h : j ∈ kids ns i) : ∃ n, node ns i = some n := by
  unfold kids at h
  cases q : node ns i with
  | none =>
    rw [q] at h
    cases h
  | some n => exact ⟨n, rfl⟩
theorem Reached.mem {ns : List Nd} {cs l : List Nat} (r : Reached ns cs l) {c i : Nat} (hc : c ∈ cs) (h : Sub ns c i) (h1 : 1 < i) : i ∈ l := by
  induction h with
  | refl => exact r.all c hc h1
  | @step i j hs hj ih =>
    obtain ⟨n, hn⟩ := kids_node hj
    have hi := ih (node_lt hn).1
    obtain ⟨k, hk⟩ := List.getElem?_of_mem hi
    exact List.mem_of_mem_take (r.tp.bf k i j hk hj)
def entOf (ns : List Nd) : T → Int
  | .int k => match node ns k.toNat with
    | some n => n.e
    | none => 0
  | _ => 0
theorem entOf_node {ns : List Nd} {i : Nat} {n : Nd} (h : node ns i = some n) : entOf ns (.int (i : Int)) = n.e := by
  show (match node ns (i : Int).toNat with | some n => n.e | none => 0) = n.e
  rw [Int.toNat_natCast, h]
theorem Reached.asks {ns : List Nd} {c : Nat} {l : List Nat} (r : Reached ns [c] l) (g : Good ns) {e : Int} : e ∈ (natT l).map (entOf ns) ↔ Asks ns c e := by
  constructor
  · intro h
    obtain ⟨x, hx, rfl⟩ := List.mem_map.mp h
    obtain ⟨i, hi, rfl⟩ := List.mem_map.mp hx
    obtain ⟨r1, r2⟩ := r.tp.rg i hi
    obtain ⟨n, hn⟩ := node_some r1 r2
    obtain ⟨c', h1, h2⟩ := r.sub i hi
    cases List.mem_singleton.mp h1
    exact ⟨i, n, h2, hn, (entOf_node hn).symm⟩
  · rintro ⟨i, n, hs, hn, rfl⟩
    have hi := r.mem (List.mem_singleton.mpr rfl) hs (node_lt hn).1
    exact List.mem_map.mpr ⟨.int (i : Int), List.mem_map.mpr ⟨i, hi, rfl⟩, entOf_node hn⟩
section
variable {K : PySem.W.Frag} {R : Rs} {B : Bs R} {g : R.G} {es : List Ent} {te : TE} {nx bk ct : R.G → List Ent → Prop} {rt : T → R.G → Prop}
theorem wq_asgT {tg : TG} {vs : List Nat} {bind : T → List Ent → List Ent → Prop} (G : Tgt K tg vs bind) (h : wE K R B te g es fun t g' es' => ∃ es2, bind t es' es2 ∧ nx g' es2) : wQ K R B (tAsg te tg) g es nx rt bk ct := ws_asgT (P := ⟨nx, rt, bk, ct⟩) G h
end
end Zc
/-! Zx: what the laws over conditions share: drawn numbers, the same data, ascending numbers. -/
namespace Zc
open PySem L2
theorem ixN_nat {n i : Nat} (h : i < n) : ixN n (i : Int) = some i := by
  unfold ixN
  rw [if_pos (Int.natCast_nonneg i), if_pos (by omega)]
  simp
theorem p_next_i {R : Rs} {a : Addr} {m : Int} {g : R.G} {post : T → R.G → Prop} (h0 : 0 < m) (h1 : m < 1073741824) (h : ∀ r : Nat, (r : Int) < m → post (.int (r : Int)) g) : p_next R a [.raw (.ref a), .int m] g post := by
  refine ⟨m, rfl, ⟨h0, h1⟩, fun r q0 q1 => ?_⟩
  obtain ⟨n, rfl⟩ := Int.eq_ofNat_of_zero_le q0
  exact h n q1
theorem ix_mem {ts : List T} {n : Nat} {p : T → Prop} (h1 : (n : Int) < (ts.length : Nat)) (h : ∀ t, t ∈ ts → p t) : ∃ t, atI ts (n : Int) = some t ∧ p t := by
  have hn : n < ts.length := by omega
  refine ⟨ts[n], ?_, h _ (List.getElem_mem hn)⟩
  unfold atI
  rw [ixN_nat hn]
  simp [hn]
theorem map_get {α : Type} {f : α → T} {ts : List α} {n : Nat} {x : T} (h : (ts.map f)[n]? = some x) : ∃ y, ts[n]? = some y ∧ x = f y := by
  rw [List.getElem?_map] at h
  obtain ⟨y, h1, h2⟩ := Option.map_eq_some_iff.mp h
  exact ⟨y, h1, h2.symm⟩
mutual
/-- numbers, truth values, texts, None, in lists and tuples, so deep at most -/
def T.plain : Nat → T → Bool
  | _, .int _ => true
  | _, .bl _ => true
  | _, .non => true
  | d + 1, .lst ts => plains d ts && decide (ts.length ≤ 1000)
  | d + 1, .tup ts => plains d ts && decide (ts.length ≤ 1000)
  | _, _ => false
def plains : Nat → List T → Bool
  | _, [] => true
  | d, t :: ts => t.plain d && plains d ts
end
theorem plains_int {d : Nat} : ∀ ns : List Int, plains d (ns.map .int) = true
  | [] => by cases d <;> rfl
  | n :: ns => by
    show ((T.int n).plain d && plains d (ns.map .int)) = true
    rw [plains_int ns]
    cases d <;> rfl
theorem asc_unique : ∀ {xs ys : List Int}, xs.Pairwise (· < ·) → ys.Pairwise (· < ·) → (∀ k, k ∈ xs ↔ k ∈ ys) → xs = ys
  | [], [], _, _, _ => rfl
  | [], y :: ys, _, _, h => absurd ((h y).mpr List.mem_cons_self) List.not_mem_nil
  | x :: xs, [], _, _, h => absurd ((h x).mp List.mem_cons_self) List.not_mem_nil
  | x :: xs, y :: ys, p, q, h => by
    obtain ⟨p1, p2⟩ := List.pairwise_cons.mp p
    obtain ⟨q1, q2⟩ := List.pairwise_cons.mp q
    have e : x = y := by
      rcases List.mem_cons.mp ((h x).mp List.mem_cons_self) with e | m
      · exact e
      · rcases List.mem_cons.mp ((h y).mpr List.mem_cons_self) with e | m'
        · exact e.symm
        · have := q1 x m
          have := p1 y m'
          omega
    subst e
    congr 1
    refine asc_unique p2 q2 fun k => ?_
    constructor
    · intro hk
      rcases List.mem_cons.mp ((h k).mp (List.mem_cons_of_mem _ hk)) with e | m
      · have := p1 k hk
        omega
      · exact m
    · intro hk
      rcases List.mem_cons.mp ((h k).mpr (List.mem_cons_of_mem _ hk)) with e | m
      · have := q1 k hk
        omega
      · exact m
theorem asc_of {xs ys : List Int} (p : xs.Perm ys) (s : xs.Pairwise (· ≤ ·)) (n : ys.Nodup) : xs.Pairwise (· < ·) := by
  have n2 : xs.Nodup := p.nodup_iff.mpr n
  refine (List.pairwise_and_iff.mpr ⟨s, n2⟩).imp fun h => ?_
  obtain ⟨h1, h2⟩ := h
  omega
theorem putT_keys {kvs : List (Key × T)} {ns : List Int} {k : Int} {v : T} (h : kvs.map (·.1) = ns.map Sum.inl) : ((putT kvs (.inl k) v).map (·.1) = (if k ∈ ns then ns else ns ++ [k]).map Sum.inl) := by
  have e : (kvs.any fun kv => decide (kv.1 = Sum.inl k)) = decide (k ∈ ns) := by
    have : (kvs.any fun kv => decide (kv.1 = Sum.inl k)) = ((kvs.map (·.1)).any fun x => decide (x = (Sum.inl k : Key))) := by
      rw [List.any_map] <;> rfl
    rw [this, h, List.any_map]
    by_cases m : k ∈ ns
    · rw [decide_eq_true m]
      exact List.any_eq_true.mpr ⟨k, m, decide_eq_true rfl⟩
    · rw [decide_eq_false m]
      refine List.any_eq_false.mpr fun x hx => ?_
      intro hd
      have := of_decide_eq_true hd
      injection this with this
      exact m (this ▸ hx)
  unfold putT
  rw [e]
  by_cases m : k ∈ ns
  · rw [if_pos (decide_eq_true m), if_pos m, ← h, List.map_map]
    refine List.map_congr_left fun kv _ => ?_
    show (if kv.1 = Sum.inl k then (kv.1, v) else kv).1 = kv.1
    split <;> rfl
  · rw [if_neg (by simp [m]), if_neg m, List.map_append, h, List.map_append] <;> rfl
theorem atI_0 {x : T} {xs : List T} : atI (x :: xs) 0 = some x := by
  unfold atI ixN
  rw [if_pos (by decide), if_pos (by rw [List.length_cons]; omega)]
  rfl
theorem atI_1 {x y : T} {xs : List T} : atI (x :: y :: xs) 1 = some y := by
  unfold atI ixN
  rw [if_pos (by decide), if_pos (by rw [List.length_cons, List.length_cons]; omega)]
  rfl
theorem ix_at {ts : List T} {k : Nat} (h : (k : Int) < ts.length) : ∃ t, atI ts (k : Int) = some t ∧ t ∈ ts := by
  have hn : k < ts.length := by omega
  refine ⟨ts[k], ?_, List.getElem_mem hn⟩
  unfold atI
  rw [ixN_nat hn]
  simp [hn]
theorem all_bl {ys : List T} (h : ∀ y, y ∈ ys → y = .bl true) : ys = (List.replicate ys.length true).map T.bl := by
  rw [List.map_replicate]
  exact List.eq_replicate_iff.mpr ⟨rfl, h⟩
theorem all_rep {n : Nat} : (List.replicate n true).all id = true := by simp
theorem plains_mem {d : Nat} : ∀ {ts : List T} {t : T}, plains d ts = true → t ∈ ts → t.plain d = true
  | t :: ts, x, h, hx => by
    obtain ⟨h1, h2⟩ := (Bool.and_eq_true _ _).mp (show (t.plain d && plains d ts) = true from h)
    rcases List.mem_cons.mp hx with rfl | hx
    · exact h1
    · exact plains_mem h2 hx
def p_same (R : Rs) (d : Nat) : DSp R := fun ts g post => ∃ t : T, ts = [t, t] ∧ t.plain d = true ∧ post (.bl true) g
theorem plains_of {d : Nat} : ∀ {ts : List T}, (∀ t, t ∈ ts → t.plain d = true) → plains d ts = true
  | [], _ => by cases d <;> rfl
  | t :: ts, h => by
    show (t.plain d && plains d ts) = true
    rw [h t List.mem_cons_self, plains_of fun x hx => h x (List.mem_cons_of_mem _ hx)] <;> rfl
theorem plain_lst {d : Nat} {ts : List T} (h : ∀ t, t ∈ ts → t.plain d = true) (hl : ts.length ≤ 1000) : (T.lst ts).plain (d + 1) = true := by
  show (plains d ts && decide (ts.length ≤ 1000)) = true
  rw [plains_of h, decide_eq_true hl] <;> rfl
theorem plain_tup {d : Nat} {ts : List T} (h : ∀ t, t ∈ ts → t.plain d = true) (hl : ts.length ≤ 1000) : (T.tup ts).plain (d + 1) = true := by
  show (plains d ts && decide (ts.length ≤ 1000)) = true
  rw [plains_of h, decide_eq_true hl] <;> rfl
theorem plain_int {d : Nat} {i : Int} : (T.int i).plain d = true := by cases d <;> rfl
section
variable {es : List Ent}
theorem set_bind {i : Nat} {x : T} : es.set i (.dat x) = (wipeE es [i]).set i (.dat x) := by
  show es.set i (.dat x) = (es.set i .any).set i (.dat x)
  rw [List.set_set]
theorem set_noOwn {i : Nat} {x : T} : NoOwn [i] (es.set i (.dat x)) := fun j e hj he => by
  cases (List.mem_singleton.mp hj)
  rcases set_get he with ⟨_, rfl, _⟩ | ⟨ne, _⟩
  · rfl
  · exact absurd rfl ne
end
end Zc
/-! Bt: trees of conditions, all parts of a list, weighted sums over them, in plain Lean. -/
namespace Zc
open PySem L2
inductive Bx where
  | const (i : Int) | there (e : Int) | neg (x : Bx) | bin (f : Fo) (x y : Bx)
def Bx.t : Bx → T
  | .const i => .tup [.str "constant", .int i]
  | .there e => .tup [.str "there", .int e]
  | .neg x => .tup [.str "not", x.t]
  | .bin f x y => .tup [.str f.str, x.t, y.t]
def Bx.sem (σ : Int → Bool) : Bx → Bool
  | .const i => decide (i = 1)
  | .there e => σ e
  | .neg x => !x.sem σ
  | .bin f x y => f.op (x.sem σ) (y.sem σ)
/-- over these entries, so high at most -/
def Bx.wf (E : List Int) : Nat → Bx → Prop
  | _, .const i => 0 ≤ i ∧ i < 2
  | _, .there e => e ∈ E
  | d + 1, .neg x => x.wf E d
  | d + 1, .bin _ x y => x.wf E d ∧ y.wf E d
  | 0, .neg _ => False
  | 0, .bin _ _ _ => False
theorem Bx.sem_on {E : List Int} {σ τ : Int → Bool} (h : ∀ e, e ∈ E → σ e = τ e) : ∀ {d : Nat} {x : Bx}, x.wf E d → x.sem σ = x.sem τ
  | _, .const _, _ => rfl
  | 0, .there e, w => h e w
  | _ + 1, .there e, w => h e w
  | d + 1, .neg x, w => congrArg Bool.not (Bx.sem_on h (d := d) (x := x) w)
  | d + 1, .bin f x y, w => by
    show f.op (x.sem σ) (y.sem σ) = f.op (x.sem τ) (y.sem τ)
    rw [Bx.sem_on h w.1, Bx.sem_on h w.2]
/-! ### all parts -/
def subs (E : List Int) : List (List Int) := E.foldl (fun f e => f ++ f.map (· ++ [e])) [[]]
def subC : List Int → List (List Int)
  | [] => [[]]
  | e :: D => subC D ++ (subC D).map (e :: ·)
theorem subC_snoc (e : Int) : ∀ D : List Int, (subC D ++ (subC D).map (· ++ [e])).Perm (subC (D ++ [e]))
  | [] => .refl _
  | d :: D => by
    have ih := subC_snoc e D
    have h1 := (ih.map (d :: ·))
    show ((subC D ++ (subC D).map (d :: ·)) ++ (subC D ++ (subC D).map (d :: ·)).map (· ++ [e])).Perm (subC (D ++ [e]) ++ (subC (D ++ [e])).map (d :: ·))
    refine .trans ?_ (ih.append h1)
    rw [List.map_append, List.map_append, List.map_map, List.map_map]
    have e1 : ((fun p : List Int => p ++ [e]) ∘ fun p => d :: p) = ((fun p : List Int => d :: p) ∘ fun p => p ++ [e]) := rfl
    rw [e1, List.append_assoc, List.append_assoc]
    refine .append_left _ ?_
    rw [← List.append_assoc, ← List.append_assoc]
    exact .append_right _ List.perm_append_comm
theorem subs_fold : ∀ (E D : List Int) (X : List (List Int)), X.Perm (subC D) → (E.foldl (fun f e => f ++ f.map (· ++ [e])) X).Perm (subC (D ++ E))
  | [], D, X, h => by
    rw [List.append_nil]
    exact h
  | e :: E, D, X, h => by
    have h1 : (X ++ X.map (· ++ [e])).Perm (subC (D ++ [e])) := (h.append (h.map _)).trans (subC_snoc e D)
    have := subs_fold E (D ++ [e]) _ h1
    rw [List.append_assoc] at this
    exact this
theorem subs_perm (E : List Int) : (subs E).Perm (subC E) := subs_fold E [] _ (.refl _)
theorem subs_take {E : List Int} {n : Nat} {e : Int} (h : E[n]? = some e) : subs (E.take (n + 1)) = subs (E.take n) ++ (subs (E.take n)).map (· ++ [e]) := by
  unfold subs
  rw [List.take_add_one, h, List.foldl_append] <;> rfl
theorem subC_len : ∀ E : List Int, (subC E).length = 2 ^ E.length
  | [] => rfl
  | e :: E => by
    show (subC E ++ (subC E).map _).length = _
    rw [List.length_append, List.length_map, subC_len E, List.length_cons, Nat.pow_succ]
    omega
theorem subs_len (E : List Int) : (subs E).length = 2 ^ E.length := (subs_perm E).length_eq.trans (subC_len E)
theorem subC_sub : ∀ {E p : List Int}, p ∈ subC E → p.Sublist E
  | [], p, h => by
    cases List.mem_singleton.mp h
    exact .slnil
  | e :: E, p, h => by
    rcases List.mem_append.mp h with h | h
    · exact .cons _ (subC_sub h)
    · obtain ⟨q, hq, rfl⟩ := List.mem_map.mp h
      exact .cons_cons _ (subC_sub hq)
theorem subC_mem : ∀ {E p : List Int}, p.Sublist E → p ∈ subC E
  | _, _, .slnil => List.mem_singleton.mpr rfl
  | _, _, .cons _ h => List.mem_append_left _ (subC_mem h)
  | _, _, .cons_cons _ h => List.mem_append_right _ (List.mem_map.mpr ⟨_, subC_mem h, rfl⟩)
theorem subs_mem {E p : List Int} : p ∈ subs E ↔ p.Sublist E := (subs_perm E).mem_iff.trans ⟨subC_sub, subC_mem⟩
theorem sum_perm {α : Type} {f : α → Int} {xs ys : List α} (h : xs.Perm ys) : (xs.map f).sum = (ys.map f).sum := by
  induction h with
  | nil => rfl
  | cons x _ ih => rw [List.map_cons, List.map_cons, List.sum_cons, List.sum_cons, ih]
  | swap x y l =>
    simp only [List.map_cons, List.sum_cons]
    omega
  | trans _ _ h1 h2 => exact h1.trans h2
/-! ### weights -/
def wt (o : Int) (c : Int → Int) (p : List Int) : List Int → Int
  | [] => 1
  | e :: D => (if e ∈ p then c e else o - c e) * wt o c p D
theorem wt_fold {o : Int} {c : Int → Int} {p : List Int} : ∀ (D : List Int) (w : Int), D.foldl (fun w e => w * (if e ∈ p then c e else o - c e)) w = w * wt o c p D
  | [], w => (Int.mul_one w).symm
  | e :: D, w => by
    show D.foldl _ (w * _) = _
    rw [wt_fold D, Int.mul_assoc]
    rfl
theorem wt_congr {o : Int} {c : Int → Int} {p q : List Int} : ∀ {D : List Int}, (∀ e, e ∈ D → (e ∈ p ↔ e ∈ q)) → wt o c p D = wt o c q D
  | [], _ => rfl
  | e :: D, h => by
    show (if e ∈ p then c e else o - c e) * _ = (if e ∈ q then c e else o - c e) * _
    rw [wt_congr fun x hx => h x (List.mem_cons_of_mem _ hx)]
    have := h e List.mem_cons_self
    by_cases z : e ∈ p
    · rw [if_pos z, if_pos (this.mp z)]
    · rw [if_neg z, if_neg fun y => z (this.mpr y)]
def wSum (o : Int) (c : Int → Int) (D : List Int) (φ : List Int → Bool) : Int := (((subC D).filter φ).map fun p => wt o c p D).sum
theorem sum_map_mul {α : Type} (k : Int) (f : α → Int) : ∀ xs : List α, (xs.map fun x => k * f x).sum = k * (xs.map f).sum
  | [] => (Int.mul_zero k).symm
  | x :: xs => by
    rw [List.map_cons, List.map_cons, List.sum_cons, List.sum_cons, sum_map_mul k f xs, Int.mul_add]
theorem wSum_congr {o : Int} {c : Int → Int} {D : List Int} {φ ψ : List Int → Bool} (h : ∀ p, p ∈ subC D → φ p = ψ p) : wSum o c D φ = wSum o c D ψ := by
  unfold wSum
  rw [List.filter_congr h]
theorem wSum_cons {o : Int} {c : Int → Int} {e : Int} {D : List Int} (he : e ∉ D) (φ : List Int → Bool) : wSum o c (e :: D) φ = (o - c e) * wSum o c D φ + c e * wSum o c D fun p => φ (e :: p) := by
  unfold wSum
  show (((subC D ++ (subC D).map (e :: ·)).filter φ).map _).sum = _
  rw [List.filter_append, List.map_append, List.sum_append, List.filter_map, List.map_map, ← sum_map_mul, ← sum_map_mul]
  congr 2
  · refine List.map_congr_left fun p hp => ?_
    have hs := subC_sub (List.mem_filter.mp hp).1
    show (if e ∈ p then c e else o - c e) * _ = _
    rw [if_neg fun z => he (hs.subset z)]
  · refine List.map_congr_left fun p hp => ?_
    show (if e ∈ e :: p then c e else o - c e) * wt o c (e :: p) D = _
    rw [if_pos List.mem_cons_self]
    congr 1
    exact wt_congr fun x hx => by
      rw [List.mem_cons]
      exact ⟨fun z => z.elim (fun z => absurd (z ▸ hx) he) id, .inr⟩
theorem wSum_free {o : Int} {c : Int → Int} {e : Int} {D : List Int} (he : e ∉ D) {φ : List Int → Bool} (h : ∀ p, p ∈ subC D → φ (e :: p) = φ p) : wSum o c (e :: D) φ = o * wSum o c D φ := by
  rw [wSum_cons he, wSum_congr (φ := fun p => φ (e :: p)) h, ← Int.add_mul]
  congr 1
  omega
theorem wSum_subs {o : Int} {c : Int → Int} {E : List Int} {φ : List Int → Bool} : (((subs E).filter φ).map fun p => wt o c p E).sum = wSum o c E φ := by
  unfold wSum
  exact sum_perm ((subs_perm E).filter φ)
/-! ### over diagrams -/
def phi (ns : List Nd) (i : Nat) (p : List Int) : Bool := den ns i fun e => decide (e ∈ p)
theorem mem_put {e : Int} {p : List Int} : (fun x => decide (x ∈ e :: p)) = put (fun x => decide (x ∈ p)) e true := by
  funext x
  unfold put
  by_cases h : x = e
  · subst h
    rw [if_pos rfl]
    exact decide_eq_true List.mem_cons_self
  · rw [if_neg h]
    show decide (x ∈ e :: p) = decide (x ∈ p)
    by_cases q : x ∈ p
    · rw [decide_eq_true q, decide_eq_true (List.mem_cons_of_mem _ q)]
    · rw [decide_eq_false q, decide_eq_false fun z => (List.mem_cons.mp z).elim h q]
theorem phi_skip {ns : List Nd} (g : Good ns) {i : Nat} (hi : i < ns.length + 2) {e : Int} (h : Top ns e i) (p : List Int) : phi ns i (e :: p) = phi ns i p := by
  unfold phi
  rw [mem_put]
  exact den_put g hi h
theorem phi_node {ns : List Nd} (g : Good ns) {i : Nat} {n : Nd} (hn : node ns i = some n) (p : List Int) : phi ns i (n.e :: p) = phi ns n.t p := by
  obtain ⟨h1, h2, h3⟩ := node_lt hn
  obtain ⟨k1, k2, _⟩ := g.kids hn
  unfold phi
  rw [den_node g hn, if_pos (decide_eq_true List.mem_cons_self), mem_put]
  exact den_put g (by omega) (g.topt hn)
theorem phi_not {ns : List Nd} (g : Good ns) {i : Nat} {n : Nd} (hn : node ns i = some n) {p : List Int} (h : n.e ∉ p) : phi ns i p = phi ns n.w p := by
  unfold phi
  rw [den_node g hn, if_neg (by rw [decide_eq_false h]; exact Bool.false_ne_true)]
theorem wSum_node {ns : List Nd} (g : Good ns) {i : Nat} {n : Nd} (hn : node ns i = some n) {o : Int} {c : Int → Int} {D : List Int} (he : n.e ∉ D) : wSum o c (n.e :: D) (phi ns i) = (o - c n.e) * wSum o c D (phi ns n.w) + c n.e * wSum o c D (phi ns n.t) := by
  rw [wSum_cons he]
  congr 2
  · exact wSum_congr fun p hp => phi_not g hn fun z => he ((subC_sub hp).subset z)
  · exact wSum_congr fun p _ => phi_node g hn p
theorem wSum_skip {ns : List Nd} (g : Good ns) {i : Nat} (hi : i < ns.length + 2) {o : Int} {c : Int → Int} : ∀ {A B : List Int}, (A ++ B).Nodup → (∀ e, e ∈ A → Top ns e i) → wSum o c (A ++ B) (phi ns i) = o ^ A.length * wSum o c B (phi ns i)
  | [], B, _, _ => by
    rw [List.length_nil, Int.pow_zero, Int.one_mul]
    rfl
  | e :: A, B, nd, h => by
    have nd' : e ∉ A ++ B ∧ (A ++ B).Nodup := List.nodup_cons.mp nd
    show wSum o c (e :: (A ++ B)) (phi ns i) = _
    rw [wSum_free nd'.1 fun p _ => phi_skip g hi (h e List.mem_cons_self) p, wSum_skip g hi nd'.2 fun x hx => h x (List.mem_cons_of_mem _ hx), List.length_cons, Int.pow_succ]
    rw [← Int.mul_assoc, Int.mul_comm o]
/-- where a number's entry stands in the list, behind all for a leaf -/
def plc (ns : List Nd) (D : List Int) (i : Nat) : Nat := match node ns i with
  | none => D.length
  | some n => D.idxOf n.e
theorem plc_leaf {ns : List Nd} {D : List Int} {i : Nat} (h : i < 2) : plc ns D i = D.length := by
  unfold plc
  rw [node_small h]
theorem plc_node {ns : List Nd} {D : List Int} {i : Nat} {n : Nd} (h : node ns i = some n) : plc ns D i = D.idxOf n.e := by
  unfold plc
  rw [h]
theorem drop_idx {D : List Int} {e : Int} (h : e ∈ D) : D.drop (D.idxOf e) = e :: D.drop (D.idxOf e + 1) := by
  have hl : D.idxOf e < D.length := List.idxOf_lt_length_of_mem h
  rw [List.drop_eq_getElem_cons hl, List.getElem_idxOf hl]
/-- all entries that the node asks about stand in the list -/
def AllIn (ns : List Nd) (D : List Int) (i : Nat) : Prop := ∀ e, Asks ns i e → e ∈ D
theorem AllIn.here {ns : List Nd} {D : List Int} {i : Nat} {n : Nd} (h : AllIn ns D i) (hn : node ns i = some n) : n.e ∈ D := h _ ⟨i, n, .refl, hn, rfl⟩
theorem Sub.trans {ns : List Nd} {a b c : Nat} (h : Sub ns a b) (k : Sub ns b c) : Sub ns a c := by
  induction k with
  | refl => exact h
  | step _ hj ih => exact .step ih hj
theorem AllIn.sub {ns : List Nd} {D : List Int} {i j : Nat} (h : AllIn ns D i) (s : Sub ns i j) : AllIn ns D j := fun e ⟨k, n, h1, h2, h3⟩ => h e ⟨k, n, s.trans h1, h2, h3⟩
theorem idx_lt {D : List Int} (s : D.Pairwise (· < ·)) {x y : Int} (hx : x ∈ D) (hy : y ∈ D) (h : x < y) : D.idxOf x < D.idxOf y := by
  have lx := List.idxOf_lt_length_of_mem hx
  have ly := List.idxOf_lt_length_of_mem hy
  refine Nat.lt_of_not_le fun q => ?_
  rcases Nat.lt_or_eq_of_le q with q | q
  · have := List.pairwise_iff_getElem.mp s _ _ ly lx q
    rw [List.getElem_idxOf, List.getElem_idxOf] at this
    omega
  · have : D[D.idxOf y] = D[D.idxOf x] := by congr 1
    rw [List.getElem_idxOf, List.getElem_idxOf] at this
    omega
theorem plc_le {ns : List Nd} {D : List Int} {i : Nat} : plc ns D i ≤ D.length := by
  unfold plc
  cases node ns i with
  | none => exact Nat.le_refl _
  | some n => exact List.idxOf_le_length
/-- behind an entry, to the place of a number that asks only about later ones -/
theorem wSum_to {ns : List Nd} (g : Good ns) {k : Nat} (hk : k < ns.length + 2) {o : Int} {c : Int → Int} {D : List Int} (s : D.Pairwise (· < ·)) (al : AllIn ns D k) {p : Nat} (hp : p ≤ plc ns D k) :
    wSum o c (D.drop p) (phi ns k) = o ^ (plc ns D k - p) * wSum o c (D.drop (plc ns D k)) (phi ns k) := by
  have nd : D.Nodup := s.imp fun h => by omega
  have e : D.drop p = (D.drop p).take (plc ns D k - p) ++ D.drop (plc ns D k) := by
    have h1 := List.take_append_drop (plc ns D k - p) (D.drop p)
    rw [List.drop_drop, show p + (plc ns D k - p) = plc ns D k by omega] at h1
    exact h1.symm
  have le := plc_le (ns := ns) (D := D) (i := k)
  have hl : ((D.drop p).take (plc ns D k - p)).length = plc ns D k - p := by
    rw [List.length_take, List.length_drop]
    omega
  have nd2 : ((D.drop p).take (plc ns D k - p) ++ D.drop (plc ns D k)).Nodup := e ▸ nd.sublist (List.drop_sublist _ _)
  rw [e, wSum_skip g hk nd2 ?_, hl]
  intro x hx m hm
  have hmD : m.e ∈ D := al.here hm
  have pm := plc_node (D := D) hm
  have hi : D.idxOf m.e < D.length := List.idxOf_lt_length_of_mem hmD
  rw [pm] at hx
  obtain ⟨q, hq, rfl⟩ := List.mem_iff_getElem.mp hx
  rw [List.length_take, List.length_drop] at hq
  rw [List.getElem_take, List.getElem_drop]
  have := List.pairwise_iff_getElem.mp s (p + q) (D.idxOf m.e) (by omega) hi (by omega)
  rw [List.getElem_idxOf] at this
  exact this
end Zc
/-! Zy: what the laws over conditions promise. -/
namespace Zc
open PySem L2
section
variable {K : PySem.W.Frag} {R : Rs} {p : T → Prop}
theorem wr_mod {a b : Int} (c : 0 < b) (h : p (.int (a % b))) : wR K R (rI (fun _ j => 0 < j) fun i j => .int (i % j)) (.int a) (.int b) p := wr_intC (C := fun _ j => 0 < j) c h
theorem wr_fdiv {a b : Int} (c : 0 < b ∧ b < 1073741824) (h : p (.int (a / b))) : wR K R (rI CDiv fun i j => .int (i / j)) (.int a) (.int b) p := wr_intC (C := CDiv) c h
theorem wr_fdivW {a b : Int} (c : 0 < b) (c2 : b.natAbs < 2 ^ 100) (h : p (.int (a / b))) : wR K R (rI CDivW fun i j => .int (i / j)) (.int a) (.int b) p := wr_intC (C := CDivW) (wide_div c c2 (by decide) (by decide)) h
theorem wr_mulW {a b : Int} (c : a.natAbs < 2 ^ 100) (c2 : b.natAbs < 2 ^ 100) (h : p (.int (a * b))) : wR K R (rI CMulW fun i j => .int (i * j)) (.int a) (.int b) p := wr_intC (C := CMulW) (wide_mul c c2 (by decide) (by decide) (by decide)) h
end
def EOk (m : Nat) (E : List Int) : Prop := E.Pairwise (· < ·) ∧ 1 ≤ E.length ∧ E.length ≤ m ∧ ∀ e, e ∈ E → 0 ≤ e ∧ e < 2000
def intsT (ns : List Int) : T := .lst (ns.map .int)
def partsT (ps : List (List Int)) : T := .lst (ps.map fun p => .lst (p.map .int))
def p_entries (R : Rs) (a : Addr) : DSp R := fun ts g post => ∃ m : Nat, ts = [.raw (.ref a), .int (m : Int)] ∧ (1 ≤ m ∧ m ≤ 8) ∧ ∀ E : List Int, EOk m E → post (.lst (E.map .int)) g
def p_tree (R : Rs) (a : Addr) (d : Nat) : DSp R := fun ts g post => ∃ (E : List Int) (k : Nat), ts = [.raw (.ref a), .lst (E.map .int), .int (k : Int)] ∧ EOk 8 E ∧ k ≤ d ∧ ∀ x : Bx, x.wf E d → post x.t g
theorem p_tree_i {R : Rs} {a : Addr} {d : Nat} {E : List Int} {k : Int} {g : R.G} {post : T → R.G → Prop} (hE : EOk 8 E) (hk : 0 ≤ k ∧ k ≤ (d : Int)) (h : ∀ x : Bx, x.wf E d → post x.t g) : p_tree R a d [.raw (.ref a), .lst (E.map .int), .int k] g post := ⟨E, k.toNat, by rw [Int.toNat_of_nonneg hk.1], hE, by omega, h⟩
theorem Bx.wf_const {E : List Int} {d : Nat} {i : Int} (h : 0 ≤ i ∧ i < 2) : (Bx.const i).wf E d := by cases d <;> exact h
theorem Bx.wf_there {E : List Int} {d : Nat} {e : Int} (h : e ∈ E) : (Bx.there e).wf E d := by cases d <;> exact h
def gro : Nat → Nat
  | 0 => 1
  | d + 1 => 2 * gro d + 256
def p_build {R : Rs} {C : Addr} {E : List Int} (hs : HasStore R C E) (d : Nat) : DSp R := fun ts g post => ∃ (s : SG) (x : Bx), ts = [.raw (.ref s.a), x.t] ∧ hs.sg g = some s ∧
  (s.Ok E ∧ E.length ≤ 8 ∧ x.wf E d ∧ s.ns.length + gro d + 300 < sizeLine ∧ s.rs.length + gro d + 300 < sizeLine) ∧
  ∀ (c : Nat) g' s', hs.sg g' = some s' → s'.Ok E → Ext s s' (gro d) (gro d) → c < s'.ns.length + 2 → (∀ σ, den s'.ns c σ = x.sem σ) → post (.int (c : Int)) g'
def p_true (R : Rs) (d : Nat) : DSp R := fun ts g post => ∃ (E : List Int) (x : Bx) (ps : List Int), ts = [x.t, .lst (ps.map .int)] ∧ x.wf E d ∧ post (.bl (x.sem fun e => decide (e ∈ ps))) g
def p_subsets (R : Rs) : DSp R := fun ts g post => ∃ E : List Int, ts = [.lst (E.map .int)] ∧ E.length ≤ 8 ∧ post (partsT (subs E)) g
def p_common (R : Rs) : DSp R := fun ts g post => ∃ a b : Nat, ts = [.int (a : Int), .int (b : Int)] ∧ (a < 2 ^ 100 ∧ b < 2 ^ 100) ∧ post (.int ((Nat.gcd a b : Nat) : Int)) g
/-- a fraction in lowest terms -/
def lowT (a b : Int) : T := .tup [.int (a / ((Nat.gcd a.natAbs b.natAbs : Nat) : Int)), .int (b / ((Nat.gcd a.natAbs b.natAbs : Nat) : Int))]
def p_low (R : Rs) : DSp R := fun ts g post => ∃ a b : Int, ts = [.int a, .int b] ∧ (0 < b ∧ a.natAbs < 2 ^ 100 ∧ b.natAbs < 2 ^ 100) ∧ post (lowT a b) g
theorem lowT_scale {k a b : Int} (hk : 0 < k) : lowT (k * a) (k * b) = lowT a b := by
  unfold lowT
  have e : Nat.gcd (k * a).natAbs (k * b).natAbs = k.natAbs * Nat.gcd a.natAbs b.natAbs := by
    rw [Int.natAbs_mul, Int.natAbs_mul, Nat.gcd_mul_left]
  have e2 : ((k.natAbs * Nat.gcd a.natAbs b.natAbs : Nat) : Int) = k * ((Nat.gcd a.natAbs b.natAbs : Nat) : Int) := by
    rw [Int.natCast_mul, Int.natAbs_of_nonneg (Int.le_of_lt hk)]
  rw [e, e2, Int.mul_ediv_mul_of_pos _ _ hk, Int.mul_ediv_mul_of_pos _ _ hk]
/-! ### Euclid -/
/-- behind n turns -/
def Euc (a b n x y : Nat) : Prop := Nat.gcd x y = Nat.gcd a b ∧ (∀ M, a < M → b < M → x < M ∧ y < M) ∧ ((n = 0 ∧ x = a ∧ y = b) ∨ (1 ≤ n ∧ y < x ∧ x * y * 2 ^ (n - 1) ≤ a * b))
theorem Euc.start (a b : Nat) : Euc a b 0 a b := ⟨rfl, fun _ h1 h2 => ⟨h1, h2⟩, .inl ⟨rfl, rfl, rfl⟩⟩
theorem Euc.step {a b n x y : Nat} (h : Euc a b n x y) (hy : y ≠ 0) : Euc a b (n + 1) y (x % y) := by
  have hp : 0 < y := Nat.pos_of_ne_zero hy
  refine ⟨?_, fun M h1 h2 => ⟨(h.2.1 M h1 h2).2, Nat.lt_of_le_of_lt (Nat.mod_le _ _) (h.2.1 M h1 h2).1⟩, .inr ⟨by omega, Nat.mod_lt _ hp, ?_⟩⟩
  · rw [← h.1, Nat.gcd_comm y, ← Nat.gcd_rec, Nat.gcd_comm]
  · rcases h.2.2 with ⟨rfl, rfl, rfl⟩ | ⟨h1, h2, h3⟩
    · show y * (x % y) * 2 ^ 0 ≤ x * y
      rw [Nat.pow_zero, Nat.mul_one, Nat.mul_comm]
      exact Nat.mul_le_mul_right _ (Nat.mod_le _ _)
    · have hm : 2 * (x % y) ≤ x := by
        have h4 := Nat.div_add_mod x y
        have h5 : 1 ≤ x / y := Nat.div_pos (Nat.le_of_lt h2) hp
        have h6 := Nat.mod_lt x hp
        have h7 : y * 1 ≤ y * (x / y) := Nat.mul_le_mul_left _ h5
        omega
      obtain ⟨m, rfl⟩ : ∃ m, n = m + 1 := ⟨n - 1, by omega⟩
      show y * (x % y) * 2 ^ (m + 1) ≤ a * b
      refine Nat.le_trans ?_ h3
      show y * (x % y) * 2 ^ (m + 1) ≤ x * y * 2 ^ m
      rw [Nat.pow_succ, Nat.mul_comm (2 ^ m) 2, ← Nat.mul_assoc]
      refine Nat.mul_le_mul_right _ ?_
      rw [Nat.mul_assoc, Nat.mul_comm (x % y), Nat.mul_comm x]
      exact Nat.mul_le_mul_left _ hm
theorem Euc.fin {a b x y : Nat} (h : Euc a b 400 x y) (ha : a < 2 ^ 100) (hb : b < 2 ^ 100) : y = 0 := by
  rcases h.2.2 with ⟨h1, _⟩ | ⟨_, h2, h3⟩
  · cases h1
  · refine Classical.byContradiction fun hy => ?_
    have h5 : 1 ≤ x * y := Nat.mul_pos (by omega) (by omega)
    have h6 : 2 ^ (400 - 1) ≤ a * b := Nat.le_trans (Nat.le_mul_of_pos_left _ h5) h3
    have h7 : a * b ≤ 2 ^ 100 * 2 ^ 100 := Nat.mul_le_mul (Nat.le_of_lt ha) (Nat.le_of_lt hb)
    have h8 : (2 : Nat) ^ (400 - 1) ≤ 2 ^ 100 * 2 ^ 100 := Nat.le_trans h6 h7
    exact absurd h8 (by decide +kernel)
theorem Euc.done {a b n x : Nat} (h : Euc a b n x 0) : x = Nat.gcd a b := by
  rw [← h.1, Nat.gcd_zero_right]
end Zc
namespace Zc
open PySem L2
theorem rank_le {E : List Int} {ns : List Nd} {i : Nat} : rank E ns i ≤ E.length := by
  unfold rank
  cases node ns i with
  | none => exact Nat.zero_le _
  | some n => exact List.length_filter_le ..
theorem gro_pos : ∀ d : Nat, 1 ≤ gro d
  | 0 => Nat.le_refl _
  | d + 1 => by
    show 1 ≤ 2 * gro d + 256
    omega
theorem gro_succ (d : Nat) : gro (d + 1) = 2 * gro d + 256 := rfl
end Zc
namespace Zc
open PySem L2
/-! ### weights, cases -/
/-- a table of cases: every entry of E has its number, from none to all -/
def CasesOk (E : List Int) (o : Int) (c : Int → Int) (kvs : List (Key × T)) : Prop := ∀ e, e ∈ E → valT kvs (.inl e) = some (.int (c e)) ∧ 0 ≤ c e ∧ c e ≤ o
def p_weight (R : Rs) : DSp R := fun ts g post => ∃ (p E : List Int) (kvs : List (Key × T)) (o : Int) (c : Int → Int), ts = [.lst (p.map .int), .lst (E.map .int), .dct kvs, .int o] ∧ (CasesOk E o c kvs ∧ 1 ≤ o ∧ o ≤ 1000 ∧ E.length ≤ 8) ∧ post (.int (wt o c p E)) g
def p_all (R : Rs) : DSp R := fun ts g post => ∃ (E : List Int) (o : Int), ts = [.lst (E.map .int), .int o] ∧ (1 ≤ o ∧ o ≤ 1000) ∧ post (.int (o ^ E.length)) g
def p_cases (R : Rs) (a : Addr) : DSp R := fun ts g post => ∃ (E : List Int) (o : Int), ts = [.raw (.ref a), .lst (E.map .int), .int o] ∧ (E.Nodup ∧ 1 ≤ o ∧ o ≤ 1000 ∧ E.length ≤ 8) ∧ ∀ (c : Int → Int), (∀ e, e ∈ E → 0 ≤ c e ∧ c e ≤ o) → post (.dct (E.map fun e => (Sum.inl e, .int (c e)))) g
theorem casesOk_of {E : List Int} {o : Int} {c : Int → Int} (h : ∀ e, e ∈ E → 0 ≤ c e ∧ c e ≤ o) : CasesOk E o c (E.map fun e => (Sum.inl e, .int (c e))) := fun e he => by
  refine ⟨?_, h e he⟩
  clear h
  unfold valT
  induction E with
  | nil => cases he
  | cons x E ih =>
    rw [List.map_cons, List.find?_cons]
    by_cases q : x = e
    · subst q
      simp
    · have q' : ¬ (Sum.inl x : Key) = Sum.inl e := fun z => q (Sum.inl.inj z)
      simp only [q', decide_false]
      exact ih ((List.mem_cons.mp he).resolve_left fun z => q z.symm)
theorem wt_fold_take {o : Int} {c : Int → Int} {p E : List Int} {n : Nat} {e : Int} (h : E[n]? = some e) : (E.take (n + 1)).foldl (fun w e => w * (if e ∈ p then c e else o - c e)) 1 = (E.take n).foldl (fun w e => w * (if e ∈ p then c e else o - c e)) 1 * (if e ∈ p then c e else o - c e) := by
  rw [List.take_add_one, h, List.foldl_append] <;> rfl
theorem wt_all {o : Int} {c : Int → Int} {p E : List Int} : E.foldl (fun w e => w * (if e ∈ p then c e else o - c e)) 1 = wt o c p E := by rw [wt_fold, Int.one_mul]
theorem wt_le {o : Int} {c : Int → Int} {p : List Int} (ho : 0 ≤ o) : ∀ {E : List Int}, (∀ e, e ∈ E → 0 ≤ c e ∧ c e ≤ o) → 0 ≤ wt o c p E ∧ wt o c p E ≤ o ^ E.length
  | [], _ => ⟨by show (0 : Int) ≤ 1; decide, by show (1 : Int) ≤ o ^ 0; rw [Int.pow_zero]; exact Int.le_refl _⟩
  | e :: E, h => by
    obtain ⟨h1, h2⟩ := wt_le ho (p := p) (E := E) fun x hx => h x (List.mem_cons_of_mem _ hx)
    have hc := h e List.mem_cons_self
    have hx : 0 ≤ (if e ∈ p then c e else o - c e) ∧ (if e ∈ p then c e else o - c e) ≤ o := by split <;> omega
    refine ⟨Int.mul_nonneg hx.1 h1, ?_⟩
    show _ * wt o c p E ≤ o ^ (E.length + 1)
    rw [Int.pow_succ, Int.mul_comm]
    exact Int.mul_le_mul h2 hx.2 hx.1 (Int.le_trans h1 h2)
theorem putT_new {E : List Int} {e : Int} {f : Int → T} {y : T} (h : e ∉ E) : putT (E.map fun x => (Sum.inl x, f x)) (.inl e) y = E.map (fun x => (Sum.inl x, f x)) ++ [(Sum.inl e, y)] := by
  unfold putT
  rw [if_neg]
  intro q
  obtain ⟨kv, h1, h2⟩ := List.any_eq_true.mp q
  obtain ⟨x, hx, rfl⟩ := List.mem_map.mp h1
  exact h (Sum.inl.inj (of_decide_eq_true h2) ▸ hx)
end Zc
namespace Zc
open PySem L2
def appT (e : Int) : T → T
  | .lst ps => .lst (ps ++ [.int e])
  | t => t
theorem partsT_app {e : Int} {ps : List (List Int)} : partsT (ps ++ ps.map (· ++ [e])) = .lst ((ps.map fun p => T.lst (p.map .int)) ++ (((ps.map fun p => T.lst (p.map .int)).filter fun _ => true).map (appT e))) := by
  unfold partsT
  congr 1
  rw [List.map_append, List.filter_eq_self.mpr fun _ _ => rfl, List.map_map, List.map_map]
  congr 1
  refine List.map_congr_left fun p _ => ?_
  show T.lst ((p ++ [e]).map .int) = T.lst (p.map .int ++ [.int e])
  rw [List.map_append] <;> rfl
end Zc
namespace Zc
open PySem L2
theorem low_eq (a : Int) : (if a < 0 then -a else a) = ((a.natAbs : Nat) : Int) := by split <;> omega
theorem gcd_pos {a b : Int} (hb : 0 < b) : 0 < ((Nat.gcd a.natAbs b.natAbs : Nat) : Int) := by
  have : 0 < Nat.gcd a.natAbs b.natAbs := Nat.gcd_pos_of_pos_right _ (by omega)
  omega
theorem gcd_lt {a b : Int} (hb : 0 < b) (h : b.natAbs < 2 ^ 100) : ((Nat.gcd a.natAbs b.natAbs : Nat) : Int).natAbs < 2 ^ 100 := by
  rw [Int.natAbs_natCast]
  exact Nat.lt_of_le_of_lt (Nat.gcd_le_right _ (by omega)) h
theorem pow_take {o : Int} {E : List Int} {n : Nat} (h : n < E.length) : o ^ (E.take (n + 1)).length = o ^ (E.take n).length * o := by
  rw [List.length_take, List.length_take, Nat.min_eq_left (by omega), Nat.min_eq_left (by omega), Int.pow_succ]
theorem cases_ext {E : List Int} {c : Int → Int} {e v : Int} (h : e ∉ E) : (E.map fun x => ((Sum.inl x : Key), T.int (c x))) = E.map fun x => ((Sum.inl x : Key), T.int (if x = e then v else c x)) := by
  refine List.map_congr_left fun x hx => ?_
  rw [if_neg fun z => h (by rw [← z]; exact hx)]
end Zc
namespace Zc
open PySem L2
/-! ### chances -/
def p_power (R : Rs) : DSp R := fun ts g post => ∃ (b : Int) (k : Nat), ts = [.int b, .int (k : Int)] ∧ (0 ≤ b ∧ b ≤ 1000 ∧ k ≤ 1000) ∧ post (.int (b ^ k)) g
def p_holding {R : Rs} {C : Addr} {E : List Int} (hs : HasStore R C E) : DSp R := fun ts g post => ∃ (s : SG) (c : Nat) (D : List Int) (kvs : List (Key × T)) (o : Int) (cf : Int → Int), ts = [.raw (.ref s.a), .int (c : Int), .dct kvs, .lst (D.map .int), .int o] ∧ hs.sg g = some s ∧
  (s.Ok E ∧ c < s.ns.length + 2 ∧ s.ns.length + 100 < sizeLine ∧ D.Pairwise (· < ·) ∧ D.length ≤ 5 ∧ AllIn s.ns D c ∧ 1 ≤ o ∧ o ≤ 1000 ∧ CasesOk D o cf kvs) ∧ post (.int (wSum o cf D (phi s.ns c))) g
def p_chance {R : Rs} {C : Addr} {E : List Int} (hs : HasStore R C E) : DSp R := fun ts g post => ∃ (s : SG) (c : Nat) (kvs : List (Key × T)) (o : Int) (cf : Int → Int), ts = [.raw (.ref s.a), .int (c : Int), .dct kvs, .int o] ∧ hs.sg g = some s ∧
  (s.Ok E ∧ c < s.ns.length + 2 ∧ s.ns.length + 100 < 100000 ∧ E.length ≤ 5 ∧ 1 ≤ o ∧ o ≤ 1000 ∧ CasesOk E o cf kvs) ∧ ∀ D : List Int, D.Pairwise (· < ·) → (∀ e, e ∈ D ↔ Asks s.ns c e) → post (lowT (wSum o cf D (phi s.ns c)) (o ^ D.length)) g
def plT (D : List Int) : List (Key × T) := D.zipIdx.map fun p => (Sum.inl p.1, T.int ((p.2 : Nat) : Int))
theorem plT_snoc {D : List Int} {e : Int} (h : e ∉ D) : putT (plT D) (.inl e) (.int (D.length : Int)) = plT (D ++ [e]) := by
  unfold putT
  rw [if_neg]
  · unfold plT
    rw [List.zipIdx_append, List.map_append]
    simp
  · intro q
    obtain ⟨kv, h1, h2⟩ := List.any_eq_true.mp q
    obtain ⟨x, hx, rfl⟩ := List.mem_map.mp h1
    have e1 := Sum.inl.inj (of_decide_eq_true h2)
    have := (List.mem_zipIdx' hx).2
    exact h (e1 ▸ this ▸ List.getElem_mem _)
theorem plT_valA (e : Int) : ∀ (D : List Int) (k : Nat), e ∈ D → ((D.zipIdx k).map fun p => ((Sum.inl p.1 : Key), T.int ((p.2 : Nat) : Int))).find? (fun kv => decide (kv.1 = Sum.inl e)) = some (Sum.inl e, T.int ((k + D.idxOf e : Nat) : Int))
  | [], _, h => nomatch h
  | x :: D, k, h => by
    rw [List.zipIdx_cons, List.map_cons, List.find?_cons]
    by_cases q : x = e
    · subst q
      simp
    · have q' : ¬ (Sum.inl x : Key) = Sum.inl e := fun z => q (Sum.inl.inj z)
      simp only [q', decide_false]
      rw [plT_valA e D (k + 1) ((List.mem_cons.mp h).resolve_left fun z => q z.symm)]
      have e1 : (x :: D).idxOf e = D.idxOf e + 1 := by
        rw [List.idxOf_cons]
        have : (x == e) = false := by simpa using q
        rw [this] <;> rfl
      rw [e1, show k + 1 + D.idxOf e = k + (D.idxOf e + 1) by omega]
theorem plT_val {D : List Int} {e : Int} (h : e ∈ D) : valT (plT D) (.inl e) = some (.int ((D.idxOf e : Nat) : Int)) := by
  unfold valT plT
  rw [plT_valA e D 0 h, Nat.zero_add] <;> rfl
/-- what holding_cases keeps of a number -/
def holdV (ns : List Nd) (o : Int) (cf : Int → Int) (D : List Int) (i : Nat) : T := .tup [.int ((plc ns D i : Nat) : Int), .int (wSum o cf (D.drop (plc ns D i)) (phi ns i))]
theorem wSum_leaf {o : Int} {cf : Int → Int} {ns : List Nd} {D : List Int} (i : Nat) (h : i < 2) : wSum o cf (D.drop (plc ns D i)) (phi ns i) = (i : Int) := by
  rw [plc_leaf h, List.drop_eq_nil_of_le (Nat.le_refl _)]
  unfold wSum phi
  rcases (show i = 0 ∨ i = 1 by omega) with rfl | rfl
  · have : (subC []).filter (fun p => den ns 0 fun e => decide (e ∈ p)) = [] := by
      rw [show subC [] = [[]] from rfl, List.filter_cons, den_0] <;> rfl
    rw [this] <;> rfl
  · have : (subC []).filter (fun p => den ns 1 fun e => decide (e ∈ p)) = [[]] := by
      rw [show subC [] = [[]] from rfl, List.filter_cons, den_1] <;> rfl
    rw [this] <;> rfl
/-- a kid's part -/
theorem hold_kid {ns : List Nd} (g : Good ns) {D : List Int} (s : D.Pairwise (· < ·)) {i k : Nat} {n : Nd} (hn : node ns i = some n) (al : AllIn ns D i) (hk : k < ns.length + 2) (tk : Top ns n.e k) (ak : AllIn ns D k) {o : Int} {cf : Int → Int} :
    plc ns D i + 1 ≤ plc ns D k ∧ wSum o cf (D.drop (plc ns D k)) (phi ns k) * o ^ (plc ns D k - plc ns D i - 1) = wSum o cf (D.drop (plc ns D i + 1)) (phi ns k) := by
  have hD := al.here hn
  have pi := plc_node (D := D) hn
  have il := List.idxOf_lt_length_of_mem hD
  have lt : plc ns D i + 1 ≤ plc ns D k := by
    rw [pi]
    cases hm : node ns k with
    | none =>
      unfold plc
      rw [hm]
      exact il
    | some m =>
      rw [plc_node hm]
      exact idx_lt s hD (ak.here hm) (tk m hm)
  refine ⟨lt, ?_⟩
  rw [wSum_to g hk s ak lt, Int.mul_comm, show plc ns D k - (plc ns D i + 1) = plc ns D k - plc ns D i - 1 by omega]
theorem hold_node {ns : List Nd} (g : Good ns) {D : List Int} (s : D.Pairwise (· < ·)) {i : Nat} {n : Nd} (hn : node ns i = some n) (al : AllIn ns D i) {o : Int} {cf : Int → Int} :
    wSum o cf (D.drop (plc ns D i)) (phi ns i) = (o - cf n.e) * wSum o cf (D.drop (plc ns D i + 1)) (phi ns n.w) + cf n.e * wSum o cf (D.drop (plc ns D i + 1)) (phi ns n.t) := by
  have hD := al.here hn
  rw [plc_node hn, drop_idx hD]
  refine wSum_node g hn ?_
  have nd : D.Nodup := s.imp fun h => by omega
  have nd2 := nd.sublist (List.drop_sublist (D.idxOf n.e) D)
  rw [drop_idx hD] at nd2
  exact (List.nodup_cons.mp nd2).1
theorem hold_top {ns : List Nd} (g : Good ns) {D : List Int} (s : D.Pairwise (· < ·)) {c : Nat} (hc : c < ns.length + 2) (al : AllIn ns D c) {o : Int} {cf : Int → Int} :
    wSum o cf (D.drop (plc ns D c)) (phi ns c) * o ^ plc ns D c = wSum o cf D (phi ns c) := by
  have := wSum_to g hc (o := o) (c := cf) s al (Nat.zero_le (plc ns D c))
  rw [List.drop_zero, Nat.sub_zero] at this
  rw [this, Int.mul_comm]
theorem sub_w {ns : List Nd} {i : Nat} {n : Nd} (hn : node ns i = some n) (h : 1 < n.w) : Sub ns i n.w := .step .refl (by
  unfold kids
  rw [hn]
  exact List.mem_filter.mpr ⟨List.mem_cons_self, decide_eq_true h⟩)
theorem sub_t {ns : List Nd} {i : Nat} {n : Nd} (hn : node ns i = some n) (h : 1 < n.t) : Sub ns i n.t := .step .refl (by
  unfold kids
  rw [hn]
  exact List.mem_filter.mpr ⟨by simp, decide_eq_true h⟩)
theorem AllIn.leaf {ns : List Nd} {D : List Int} {k : Nat} (h : k < 2) : AllIn ns D k := by
  rintro e ⟨i, n, hs, hn, rfl⟩
  cases hs with
  | refl =>
    have := (node_lt hn).1
    omega
  | step hs hj =>
    exfalso
    have key : ∀ i, Sub ns k i → i = k := fun i hi => by
      induction hi with
      | refl => rfl
      | step _ hj ih =>
        obtain ⟨m, hm⟩ := kids_node hj
        have := (node_lt hm).1
        omega
    have := key _ hs
    subst this
    obtain ⟨m, hm⟩ := kids_node hj
    have := (node_lt hm).1
    omega
theorem AllIn.w {ns : List Nd} {D : List Int} {i : Nat} {n : Nd} (h : AllIn ns D i) (hn : node ns i = some n) : AllIn ns D n.w := by
  rcases Nat.lt_or_ge n.w 2 with q | q
  · exact .leaf q
  · exact h.sub (sub_w hn q)
theorem AllIn.t {ns : List Nd} {D : List Int} {i : Nat} {n : Nd} (h : AllIn ns D i) (hn : node ns i = some n) : AllIn ns D n.t := by
  rcases Nat.lt_or_ge n.t 2 with q | q
  · exact .leaf q
  · exact h.sub (sub_t hn q)
/-- a table by numbers, behind n nodes of the list -/
structure NTab (val : Nat → T) (l : List Nat) (n : Nat) (kvs : List (Key × T)) : Prop where
  get : ∀ i, i < 2 ∨ i ∈ l.take n → valT kvs (.inl (i : Int)) = some (val i)
  len : kvs.length ≤ n + 2
theorem NTab.start {val : Nat → T} {l : List Nat} : NTab val l 0 (mergeT [] [(.inl 0, val 0), (.inl 1, val 1)]) := by
  have e : mergeT [] [((.inl 0 : Key), val 0), (.inl 1, val 1)] = [(.inl 0, val 0), (.inl 1, val 1)] := by
    show putT (putT [] (.inl 0) (val 0)) (.inl 1) (val 1) = _
    rfl
  rw [e]
  refine ⟨fun i hi => ?_, Nat.le_refl _⟩
  rcases hi with hi | hi
  · rcases (show i = 0 ∨ i = 1 by omega) with rfl | rfl <;> rfl
  · cases hi
theorem NTab.step {val : Nat → T} {l : List Nat} {n i : Nat} {kvs : List (Key × T)} (t : NTab val l n kvs) (h : l[n]? = some i) {v : T} (hv : v = val i) : NTab val l (n + 1) (putT kvs (.inl (i : Int)) v) := by
  subst hv
  refine ⟨fun j hj => ?_, Nat.le_trans (putT_len _ _ _) (Nat.succ_le_succ t.len)⟩
  rw [valT_put]
  by_cases e : j = i
  · subst e
    rw [if_pos rfl]
  · rw [if_neg fun z => e (by injection z with z; omega)]
    refine t.get j (hj.imp id fun hj => ?_)
    rw [List.take_add_one, h] at hj
    rcases List.mem_append.mp hj with hj | hj
    · exact hj
    · exact absurd (List.mem_singleton.mp hj) e
theorem kid_in {ns : List Nd} {l : List Nat} (tp : Topo ns l) {n i j : Nat} (h : l[n]? = some i) (hj : j < 2 ∨ Sub ns i j ∧ j ∈ kids ns i) : j < 2 ∨ j ∈ l.take n := hj.imp id fun q => tp.bf n i j h q.2
theorem kid_w {ns : List Nd} {l : List Nat} (tp : Topo ns l) {n i : Nat} {m : Nd} (h : l[n]? = some i) (hm : node ns i = some m) : m.w < 2 ∨ m.w ∈ l.take n := by
  rcases Nat.lt_or_ge m.w 2 with q | q
  · exact .inl q
  · refine .inr (tp.bf n i _ h ?_)
    unfold kids
    rw [hm]
    exact List.mem_filter.mpr ⟨List.mem_cons_self, decide_eq_true q⟩
theorem kid_t {ns : List Nd} {l : List Nat} (tp : Topo ns l) {n i : Nat} {m : Nd} (h : l[n]? = some i) (hm : node ns i = some m) : m.t < 2 ∨ m.t ∈ l.take n := by
  rcases Nat.lt_or_ge m.t 2 with q | q
  · exact .inl q
  · refine .inr (tp.bf n i _ h ?_)
    unfold kids
    rw [hm]
    exact List.mem_filter.mpr ⟨by simp, decide_eq_true q⟩
theorem pow_le_pow_r {o : Int} (h : 1 ≤ o) {a b : Nat} (hab : a ≤ b) : o ^ a ≤ o ^ b := by
  obtain ⟨k, rfl⟩ : ∃ k, b = a + k := ⟨b - a, by omega⟩
  rw [Int.pow_add]
  have h0 : 0 ≤ o ^ a := Int.pow_nonneg (by omega)
  have h1 : 1 ≤ o ^ k := by
    clear h0
    induction k with
    | zero => rw [Int.pow_zero] <;> exact Int.le_refl _
    | succ k ih =>
      rw [Int.pow_succ]
      have : 1 * 1 ≤ o ^ k * o := Int.mul_le_mul (ih (by omega)) h (by decide) (by have := ih (by omega); omega)
      omega
  calc o ^ a = o ^ a * 1 := (Int.mul_one _).symm
    _ ≤ o ^ a * o ^ k := Int.mul_le_mul_of_nonneg_left h1 h0
theorem pow_bound {o : Int} (h1 : 1 ≤ o) (h2 : o ≤ 1000) {k : Nat} (hk : k ≤ 5) : 1 ≤ o ^ k ∧ o ^ k ≤ 1000000000000000 := by
  have a := pow_le_pow_r h1 (Nat.zero_le k)
  rw [Int.pow_zero] at a
  refine ⟨a, Int.le_trans (pow_le_pow_r h1 hk) ?_⟩
  have : o ^ 5 ≤ 1000 ^ 5 := by
    have q : ∀ n : Nat, 0 ≤ o ^ n ∧ o ^ n ≤ 1000 ^ n := fun n => by
      induction n with
      | zero =>
        rw [Int.pow_zero, Int.pow_zero]
        exact ⟨by decide, Int.le_refl _⟩
      | succ n ih =>
        rw [Int.pow_succ, Int.pow_succ]
        exact ⟨Int.mul_nonneg ih.1 (by omega), Int.mul_le_mul ih.2 h2 (by omega) (Int.pow_nonneg (by decide))⟩
    exact (q 5).2
  exact this
end Zc
namespace Zc
open PySem L2
theorem noOwn2 {es : List Ent} {i j : Nat} {e e' : Ent} (h : es[i]? = some e) (h' : es[j]? = some e') (ho : e.own = false) (ho' : e'.own = false) : NoOwn [i, j] es := fun k u hk hu => by
  rcases List.mem_cons.mp hk with rfl | hk
  · rw [h] at hu
    cases hu
    exact ho
  · cases List.mem_singleton.mp hk
    rw [h'] at hu
    cases hu
    exact ho'
end Zc
namespace Zc
open PySem L2
theorem sum_le {α : Type} {f : α → Int} {M : Int} (hM : 0 ≤ M) : ∀ {xs : List α}, (∀ x, x ∈ xs → 0 ≤ f x ∧ f x ≤ M) → 0 ≤ (xs.map f).sum ∧ (xs.map f).sum ≤ (xs.length : Int) * M
  | [], _ => by simp
  | x :: xs, h => by
    obtain ⟨h1, h2⟩ := sum_le hM (f := f) (xs := xs) fun y hy => h y (List.mem_cons_of_mem _ hy)
    have h0 := h x List.mem_cons_self
    rw [List.map_cons, List.sum_cons, List.length_cons, Int.natCast_succ, Int.add_mul, Int.one_mul]
    omega
theorem wSum_bound {o : Int} {c : Int → Int} {D : List Int} {φ : List Int → Bool} (ho : 1 ≤ o) (hc : ∀ e, e ∈ D → 0 ≤ c e ∧ c e ≤ o) : 0 ≤ wSum o c D φ ∧ wSum o c D φ ≤ (2 ^ D.length : Nat) * o ^ D.length := by
  unfold wSum
  have h := sum_le (f := fun p => wt o c p D) (M := o ^ D.length) (Int.pow_nonneg (by omega)) (xs := (subC D).filter φ) fun p _ => wt_le (by omega) hc
  refine ⟨h.1, Int.le_trans h.2 ?_⟩
  refine Int.mul_le_mul_of_nonneg_right ?_ (Int.pow_nonneg (by omega))
  have := List.length_filter_le φ (subC D)
  rw [subC_len] at this
  omega
end Zc
/-! Zw: a store is made; the draw beside a store; defs with a keyword-only parameter. -/
namespace Zc
open PySem L2
def initH (H : Hp) (C a dx b c d : Addr) : Hp := upd (upd (upd (upd (upd (upd H b (.lst [.non, .non])) a (.ins C dx [("_nodes", .ref b)])) c (.dT [])) a (.ins C dx [("_nodes", .ref b), ("_numbers", .ref c)])) d (.dT [])) a (.ins C dx [("_nodes", .ref b), ("_numbers", .ref c), ("_results", .ref d)])
def spInit (C : Addr) : Sp := fun vs H Q _ => ∃ a dx, vs = [.ref a] ∧ H a = some (.ins C dx []) ∧ ∀ b c d, H b = none → H c = none → H d = none → b ≠ c → b ≠ d → c ≠ d → Q .non (initH H C a dx b c d)
theorem initH_upds {H : Hp} {C a dx b c d : Addr} {W : Addr → Prop} (wa : W a) (wb : W b) (wc : W c) (wd : W d) : Upds W H (initH H C a dx b c d) :=
  .step (.step (.step (.step (.step (.step .refl wb) wa) wc) wa) wd) wa
section
variable {K : PySem.W.Frag} {R : Rs} {C : Addr} {E : List Int} {B : Bs R} {g : R.G} {es : List Ent} {post : T → R.G → List Ent → Prop}
theorem we_newStore (hs : HasStore R C E) {XE : XK} (h : hs.sg g = none ∧ ∀ s' : SG, s'.ns = [] → s'.rs = [] → s'.Ok E → post (.raw (.ref s'.a)) (hs.set g s') es) : wE K R B (tMake C (spInit C) [] XE tNil) g es post := fun F σ H ok Q q => by
  obtain ⟨hg, hp⟩ := h
  refine fun x dx nx ndx ne => ⟨x, dx, rfl, upd_same, fun b c d hb hc hd bc bd cd => ?_⟩
  have dn : ∀ {y : Addr}, (upd (upd H dx (.own x)) x (.ins C dx [])) y = none → H y = none ∧ y ≠ x ∧ y ≠ dx := fun {y} e => by
    have h1 : y ≠ x := fun z => by rw [z, upd_same] at e; cases e
    rw [upd_ne h1] at e
    have h2 : y ≠ dx := fun z => by rw [z, upd_same] at e; cases e
    rw [upd_ne h2] at e
    exact ⟨e, h1, h2⟩
  obtain ⟨b1, b2, b3⟩ := dn hb
  obtain ⟨c1, c2, c3⟩ := dn hc
  obtain ⟨d1, d2, d3⟩ := dn hd
  have up : Upds (fun y => H y = none) H (initH (upd (upd H dx (.own x)) x (.ins C dx [])) C x dx b c d) :=
    .step (.step (.step (.step (.step (.step (.step (.step .refl ndx) nx) b1) nx) c1) nx) d1) nx
  have sok : SG.Ok E ⟨[], [], x, dx, b, c, d, []⟩ := ⟨.nil, fun _ h => (nomatch h), fun _ h => (nomatch h), rfl⟩
  have st : storeAt C E ⟨[], [], x, dx, b, c, d, []⟩ (initH (upd (upd H dx (.own x)) x (.ins C dx [])) C x dx b c d) := by
    unfold initH
    refine ⟨sok, upd_same, ?_, ?_, ?_, ?_, fun i p n h1 h2 => by simp at h1, cd⟩
    · show upd _ x _ dx ≠ none
      rw [upd_ne ne, upd_ne (Ne.symm d3), upd_ne ne, upd_ne (Ne.symm c3), upd_ne ne, upd_ne (Ne.symm b3), upd_ne ne, upd_same]
      exact fun z => nomatch z
    · show upd _ x _ b = _
      rw [upd_ne b2, upd_ne bd, upd_ne b2, upd_ne bc, upd_ne b2, upd_same] <;> rfl
    · show upd _ x _ c = _
      rw [upd_ne c2, upd_ne cd, upd_ne c2, upd_same] <;> rfl
    · show upd _ x _ d = _
      rw [upd_ne d2, upd_same] <;> rfl
  have sP : ∀ a, SG.P ⟨[], [], x, dx, b, c, d, []⟩ a → H a = none := fun a ha => by
    rcases ha with rfl | rfl | (rfl | rfl | rfl) | h
    · exact nx
    · exact ndx
    · exact b1
    · exact c1
    · exact d1
    · cases h
  have sM : ∀ a, SG.M ⟨[], [], x, dx, b, c, d, []⟩ a → H a = none := fun a ha => sP a (.inr (.inr (.inl ha)))
  have keep : ∀ a o, H a = some o → initH (upd (upd H dx (.own x)) x (.ins C dx [])) C x dx b c d a = some o := fun a o ho => (up.keep fun z => by rw [ho] at z; cases z).trans ho
  have rs := hs.new ok.i.res hg up st sP
  have tr : Tr R g F H (hs.set g ⟨[], [], x, dx, b, c, d, []⟩) F (initH (upd (upd H dx (.own x)) x (.ins C dx [])) C x dx b c d) :=
    ⟨Evl.Ex.refl _, fun _ h => .inl h, fun a o ho _ => keep a o ho, fun a ha => up.al ha, fun a ha => (hs.P' ha).imp id (sP a), fun a ha => (hs.M'' ha).imp id (sM a)⟩
  have ii : R.I (hs.set g ⟨[], [], x, dx, b, c, d, []⟩) F (initH (upd (upd H dx (.own x)) x (.ins C dx [])) C x dx b c d) :=
    ⟨fun a o ho => keep a o (ok.i.ex _ _ ho), fun a ha => (hs.M'' ha).elim (ok.i.fm a) fun z => Evl.fresh_back ok.i.ex (sM a z), rs⟩
  exact ⟨rfl, q _ (.raw (.ref x)) _ es F _ (.of tr) (ok.step tr ii) (.raw _) (hp _ rfl rfl sok)⟩
end
/-! ### the draw beside a store -/
theorem storeAt.other {C : Addr} {E : List Int} {s : SG} {H : Hp} {b : Addr} {o : HO} (st : storeAt C E s H) (no : ∀ a, s.P a → a ≠ b) : storeAt C E s (upd H b o) := by
  refine ⟨st.ok, ?_, ?_, ?_, ?_, ?_, fun i p n h1 h2 => ?_, st.cd⟩
  · rw [upd_ne (no _ (.inl rfl))]
    exact st.ha
  · rw [upd_ne (no _ (.inr (.inl rfl)))]
    exact st.hdx
  · rw [upd_ne (no _ (.inr (.inr (.inl (.inl rfl)))))]
    exact st.hb
  · rw [upd_ne (no _ (.inr (.inr (.inl (.inr (.inl rfl))))))]
    exact st.hc
  · rw [upd_ne (no _ (.inr (.inr (.inl (.inr (.inr rfl))))))]
    exact st.hd
  · rw [upd_ne (no _ (.inr (.inr (.inr (List.mem_of_getElem? h1)))))]
    exact st.hp i p n h1 h2
theorem Rboth.draw {C : Addr} {E : List Int} {R : Rs} {a : Addr} (h : HasDraw R a) : HasDraw (Rboth C E R) a := by
  refine ⟨fun g H r => h.get g.1 H r.1, fun g H s i c d i' c' d' r h1 h2 => ⟨h.set g.1 H s i c d i' c' d' r.1 h1 h2, fun s0 e0 => ?_⟩, fun g => .inl (h.m g.1)⟩
  obtain ⟨st, dj⟩ := r.2 s0 e0
  exact ⟨st.other fun x hx e => dj x hx (by rw [e]; exact R.mp (h.m g.1)), dj⟩
section
variable {K : PySem.W.Frag} {R : Rs} {C : Addr} {E : List Int} {B : Bs R} {g : R.G} {es : List Ent}
/-- from here on a store may be made -/
theorem wq_both {t : TS} {p : T → Prop} (C : Addr) (E : List Int) (h : ∀ B' : Bs (Rboth C E R), wQ K (Rboth C E R) B' t (g, none) es (fun _ _ => False) (fun t _ => p t) (fun _ _ => False) (fun _ _ => False)) :
    wQ K R B t g es (fun _ _ => False) (fun t _ => p t) (fun _ _ => False) (fun _ _ => False) := fun F σ H ok D d => by
  have noM : ∀ {g0 : R.G} {a : Addr}, (Rboth C E R).M (g0, none) a → R.M g0 a := fun {g0 a} h => h.elim id fun ⟨s, e, _⟩ => nomatch e
  have noP : ∀ {g0 : R.G} {a : Addr}, (Rboth C E R).P (g0, none) a → R.P g0 a := fun {g0 a} h => h.elim id fun ⟨s, e, _⟩ => nomatch e
  have fz : ∀ (g0 : R.G) (H : Hp), (Rboth C E R).froz (g0, none) H = R.froz g0 H := fun g0 H => by
    funext a
    by_cases q : R.M g0 a
    · rw [froz_no q, froz_no (show (Rboth C E R).M (g0, none) a from .inl q)]
    · rw [froz_at q, froz_at fun z => q (noM z)]
  have i1 : (Rboth C E R).I (g, none) F H := ⟨ok.i.ex, fun a m => ok.i.fm a (noM m), ok.i.res, fun s e => nomatch e⟩
  have ok1 : Ok K (Rboth C E R) ⟨(B.g, none), B.F, B.H⟩ (g, none) es F σ H := by
    refine ⟨i1, ⟨ok.t.f, fun a h => (ok.t.nw a h).imp id fun z => z.imp id .inl, fun a o h m => ok.t.kp a o h fun z => m (.inl z), ok.t.al, fun a h => (ok.t.pp a (noP h)).imp .inl id, fun a h => (ok.t.mm a (noM h)).imp .inl id⟩, ok.len, fun j e he => ?_, ok.dis⟩
    obtain ⟨s, q1, q2⟩ := ok.ent j e he
    refine ⟨s, q1, ?_⟩
    cases e with
    | any => trivial
    | dat t => exact q2
    | bor t =>
      obtain ⟨v, z1, z2⟩ := q2
      refine ⟨v, z1, ?_⟩
      rw [fz]
      exact z2
    | lst ts =>
      obtain ⟨b, vs, z1, z2, z3, z4, z5⟩ := q2
      exact ⟨b, vs, z1, z2, z3, fun z => z4 (noP z), z5⟩
    | dk ts =>
      obtain ⟨b, vs, z1, z2, z3, z4, z5⟩ := q2
      exact ⟨b, vs, z1, z2, z3, fun z => z4 (noP z), z5⟩
  refine h _ F σ H ok1 D ⟨fun _ _ _ _ _ _ _ z => z.elim, fun v t g' F' H' e i tr r q => ?_, fun _ _ _ _ _ _ _ z => z.elim, fun _ _ _ _ _ _ _ z => z.elim⟩
  have i2 : R.I g'.1 F' H' := ⟨i.ex, fun a m => i.fm a (.inl m), i.res.1⟩
  have tr2 : Tr R B.g B.F B.H g'.1 F' H' := ⟨tr.f, fun a h => (tr.nw a h).imp id fun z => z.imp id noP, fun a o h m => tr.kp a o h fun z => m (noM z), tr.al, fun a h => (tr.pp a (.inl h)).imp noP id, fun a h => (tr.mm a (.inl h)).imp noM id⟩
  exact d.rt v t g'.1 F' H' e i2 tr2 r q
end
/-! ### a keyword-only parameter -/
structure DfnK (K : PySem.W.Frag) (mg : Str → Option Value) (x : Str) (st : Stmt) (kws : List (Str × V)) : Prop where
  ex : ∃ f fd, FunD K x x (defArgs st) (defBody st) (defScope st) [] kws f fd ∧ mg x = some (.ref f)
structure CalK (P : Program) (w : World) (K : PySem.W.Frag) (mg : Str → Option Value) (base : Heap) (k : Nat) (x : Str) (ps : List Str) (n : Nat) (ks : List Str) (ms : List V) (sp : Sp) : Prop where
  ex : ∃ f fd, FnOk P w K mg base CX0 k f fd ps sp ∧ mg x = some (.ref f) ∧ PySem.W.keepIn K (.ref f) = true ∧ (∃ ds, Vals ms ds ∧ Binds K fd ps ds) ∧ ∃ g, KBn K fd ps n ks g (fun vs zs => vs ++ zs)
theorem pe_calD {X : Cx} {k j n : Nat} {ps ks : List Str} {ms : List V} {sp : Sp} {x : Str} {p pos : Pos} {e : Expr} {es : List Expr} {t : TA} (C : CalK X.prog X.w X.K X.mg X.base k x ps n ks ms sp) (hr : Room j X.A) (hj : k ≤ j) (hg : Gl X x)
    (ha : PA X (e :: es) t) (hd : (x == ("__debug__" : Str)) = false := by decide) (hs : starEach (e :: es) X.env = (false, eval e X.env) :: starEach es X.env := by rfl)
    (hpl : (backTo pos (starEach es X.env)).any (·.1) = false := by rfl) : PE X (.Call (.Name x p) (e :: es) [] pos) (tCall sp ms E0 t) := by
  obtain ⟨f, fd, F, m, kp, ⟨ds, v, b⟩, _⟩ := C.ex
  exact pe_call F (hr.mono hj) hg m kp b v pass0 ha hd hs hpl
theorem pe_calN {X : Cx} {k j n : Nat} {ps ks : List Str} {ms : List V} {sp : Sp} {x : Str} {p pos : Pos} {e : Expr} {es : List Expr} {kws : List Keyword} {t tk : TA} (C : CalK X.prog X.w X.K X.mg X.base k x ps n ks ms sp) (hr : Room j X.A) (hj : k ≤ j) (hg : Gl X x)
    (ha : PA X (e :: es) t) (hkw : PK X kws tk) (hall : (backToKw pos (keywordEach kws X.env)).all (·.1.isSome) = true := by rfl) (hks : (backToKw pos (keywordEach kws X.env)).filterMap (·.1) = ks := by rfl)
    (hd : (x == ("__debug__" : Str)) = false := by decide) (hs : starEach (e :: es) X.env = (false, eval e X.env) :: starEach es X.env := by rfl)
    (hpl : ((backTo pos (starEach (e :: es) X.env)).any (·.1) || (backToKw pos (keywordEach kws X.env)).any (·.1.isNone)) = false := by rfl) :
    PE X (.Call (.Name x p) (e :: es) kws pos) (tCallN n ks.length sp (fun vs zs => vs ++ zs) E0 t tk) := by
  obtain ⟨f, fd, F, m, kp, _, g, b⟩ := C.ex
  exact pe_callN F (hr.mono hj) hg m kp b pass0 ha hkw hall hks hd hs hpl
section
variable {K : PySem.W.Frag} {R : Rs} {B : Bs R} {g : R.G} {es : List Ent} {post : T → R.G → List Ent → Prop}
theorem ArgsOk.plain {F H : Hp} : ∀ {vs : List V} {ts : List T}, Reps K F vs ts → ArgsOk K R g F H (ts.map fun _ => false) vs ts
  | _, _, .nil => .nil
  | _, _, .cons a b => .dat a (ArgsOk.plain b)
theorem we_callN {n m : Nat} {ms : List Bool} {pre : DSp R} {XE : XK} {t tk : TA} (h : wA K R B t g es fun ts g1 es1 => wA K R B tk g1 es1 fun us g2 es2 => (ts.length = n ∧ us.length = m ∧ ms = (ts ++ us).map fun _ => false) ∧ pre (ts ++ us) g2 fun z g3 => post z g3 es2) :
    wE K R B (tCallN n m (spD K R ms pre) (fun vs zs => vs ++ zs) XE t tk) g es post := fun F σ H ok Q q => by
  refine h F σ H ok _ fun vs ts g1 es1 F1 H1 l1 ok1 rs h1 => ?_
  refine h1 F1 σ H1 ok1 _ fun ws us g2 es2 F2 H2 l2 ok2 rs2 h2 => ?_
  obtain ⟨⟨n1, n2, rfl⟩, hp⟩ := h2
  have r3 : Reps K F2 (vs ++ ws) (ts ++ us) := (rs.up l2.f).append rs2
  exact ⟨rs.length.trans n1, rs2.length.trans n2, F2, _, g2, _, ok2.i, .plain r3, hp, fun v t g3 F3 H3 tr i r p => q v t g3 es2 F3 H3 ((l1.trans l2).trans (.of tr)) (ok2.step tr i) r p⟩
theorem we_callD {ms : List Bool} {dvs : List V} {ds : List T} {pre : DSp R} {XE : XK} {t : TA} (hd : ∀ F, Reps K F dvs ds) (h : wA K R B t g es fun ts g1 es1 => ms = ((ts ++ ds).map fun _ => false) ∧ pre (ts ++ ds) g1 fun z g2 => post z g2 es1) :
    wE K R B (tCall (spD K R ms pre) dvs XE t) g es post := fun F σ H ok Q q => by
  refine h F σ H ok _ fun vs ts g1 es1 F1 H1 l1 ok1 rs h1 => ?_
  obtain ⟨rfl, hp⟩ := h1
  exact ⟨F1, _, g1, _, ok1.i, .plain (rs.append (hd F1)), hp, fun v t g2 F2 H2 tr i r p => q v t g2 es1 F2 H2 (l1.trans (.of tr)) (ok1.step tr i) r p⟩
end
end Zc
namespace Zc
open PySem L2
/-! ### small data are shown -/
def keySm : Key → Bool
  | .inl i => decide (i.natAbs < 1048576)
  | .inr _ => false
mutual
def T.sm : Nat → T → Bool
  | _, .int i => decide (i.natAbs < 1048576)
  | _, .bl _ => true
  | _, .non => true
  | d + 1, .lst xs => sms d xs && decide (xs.length ≤ 8)
  | d + 1, .tup xs => sms d xs && decide (xs.length ≤ 8)
  | d + 1, .dct kvs => smk d kvs && decide (kvs.length ≤ 8)
  | _, _ => false
def sms : Nat → List T → Bool
  | _, [] => true
  | d, t :: ts => t.sm d && sms d ts
def smk : Nat → List (Key × T) → Bool
  | _, [] => true
  | d, (k, t) :: ts => keySm k && (t.sm d && smk d ts)
end
/-- at most so heavy -/
def hvy : Nat → Nat
  | 0 => 21
  | d + 1 => 8 * (hvy d + 24)
structure Shown (d n : Nat) (p : PyData) : Prop where
  sh : p.showable = true
  dp : p.depth ≤ d
  wt : p.weight ≤ n
  lf : p.leavesShort 22 = true
theorem shown_int {i : Int} (h : i.natAbs < 1048576) (d : Nat) : Shown d 21 (.int i) := by
  have hl : i.natAbs.log2 < 20 := by
    by_cases z : i.natAbs = 0
    · rw [z]
      decide
    · exact (Nat.log2_lt z).mpr h
  refine ⟨?_, ?_, ?_, ?_⟩
  · simp only [PyData.showable, decide_eq_true_eq]
    omega
  · simp only [PyData.depth]
    exact Nat.zero_le _
  · simp only [PyData.weight]
    split
    · omega
    · omega
  · have := int_text_length_le (a := i) (k := 20) (by decide) hl
    have e : (PyData.shown (.int i)).length ≤ 22 := by
      simp only [PyData.shown]
      show (Str.ofString (toString i)).length ≤ 22
      rw [ofString_length]
      omega
    simp only [PyData.leavesShort, decide_eq_true_eq]
    exact e
mutual
theorem T.sm_shown : ∀ (d : Nat) (t : T), t.sm d = true → t.noraw = true ∧ Shown d (hvy d) t.pr
  | d, .int i, h => ⟨rfl, by
    have h0 : i.natAbs < 1048576 := by cases d <;> exact of_decide_eq_true h
    have := shown_int h0 d
    exact ⟨this.sh, this.dp, Nat.le_trans this.wt (hvy_le d), this.lf⟩⟩
  | d, .bl b, _ => ⟨rfl, rfl, Nat.zero_le _, Nat.zero_le _, rfl⟩
  | d, .non, _ => ⟨rfl, rfl, Nat.zero_le _, Nat.zero_le _, rfl⟩
  | d + 1, .lst xs, h => by
    have h := (Bool.and_eq_true _ _).mp (show (sms d xs && decide (xs.length ≤ 8)) = true from h)
    obtain ⟨n, s⟩ := sms_shown d xs h.1
    have hl := of_decide_eq_true h.2
    refine ⟨n, ?_, ?_, ?_, ?_⟩
    · simpa only [T.pr, PyData.showable] using s.1
    · have := s.2.1
      simp only [T.pr, PyData.depth]
      omega
    · have := s.2.2.1
      have h8 : xs.length * (hvy d + 1) ≤ 8 * (hvy d + 1) := Nat.mul_le_mul_right _ hl
      simp only [T.pr, PyData.weight]
      show _ ≤ 8 * (hvy d + 24)
      omega
    · simpa only [T.pr, PyData.leavesShort] using s.2.2.2
  | d + 1, .tup xs, h => by
    have h := (Bool.and_eq_true _ _).mp (show (sms d xs && decide (xs.length ≤ 8)) = true from h)
    obtain ⟨n, s⟩ := sms_shown d xs h.1
    have hl := of_decide_eq_true h.2
    refine ⟨n, ?_, ?_, ?_, ?_⟩
    · simpa only [T.pr, PyData.showable] using s.1
    · have := s.2.1
      simp only [T.pr, PyData.depth]
      omega
    · have := s.2.2.1
      have h8 : xs.length * (hvy d + 1) ≤ 8 * (hvy d + 1) := Nat.mul_le_mul_right _ hl
      simp only [T.pr, PyData.weight]
      show _ ≤ 8 * (hvy d + 24)
      omega
    · simpa only [T.pr, PyData.leavesShort] using s.2.2.2
  | d + 1, .dct kvs, h => by
    have h := (Bool.and_eq_true _ _).mp (show (smk d kvs && decide (kvs.length ≤ 8)) = true from h)
    obtain ⟨n, s⟩ := smk_shown d kvs h.1
    have hl := of_decide_eq_true h.2
    refine ⟨n, ?_, ?_, ?_, ?_⟩
    · simpa only [T.pr, PyData.showable] using s.1
    · have := s.2.1
      simp only [T.pr, PyData.depth]
      omega
    · have := s.2.2.1
      have h8 : kvs.length * (hvy d + 23) ≤ 8 * (hvy d + 23) := Nat.mul_le_mul_right _ hl
      simp only [T.pr, PyData.weight]
      show _ ≤ 8 * (hvy d + 24)
      omega
    · simpa only [T.pr, PyData.leavesShort] using s.2.2.2
  | 0, .lst _, h => by cases h
  | 0, .tup _, h => by cases h
  | 0, .dct _, h => by cases h
  | d, .str _, h => by cases d <;> cases h
  | d, .raw _, h => by cases d <;> cases h
theorem sms_shown : ∀ (d : Nat) (ts : List T), sms d ts = true → noraws ts = true ∧ PyData.showableAll (prs ts) = true ∧ PyData.depthAll (prs ts) ≤ d ∧ PyData.weightAll (prs ts) ≤ ts.length * (hvy d + 1) ∧ PyData.leavesShortAll 22 (prs ts) = true
  | d, [], _ => ⟨rfl, rfl, Nat.zero_le _, Nat.zero_le _, rfl⟩
  | d, t :: ts, h => by
    have h := (Bool.and_eq_true _ _).mp (show (t.sm d && sms d ts) = true from h)
    obtain ⟨n1, s1⟩ := T.sm_shown d t h.1
    obtain ⟨n2, a, b, c, e⟩ := sms_shown d ts h.2
    refine ⟨by show (t.noraw && noraws ts) = true; rw [n1, n2] <;> rfl, ?_, ?_, ?_, ?_⟩
    · simp only [prs, PyData.showableAll, s1.sh, a, Bool.and_self]
    · have := s1.dp
      simp only [prs, PyData.depthAll]
      omega
    · have := s1.wt
      simp only [prs, PyData.weightAll, List.length_cons, Nat.succ_mul]
      omega
    · simp only [prs, PyData.leavesShortAll, s1.lf, e, Bool.and_self]
theorem smk_shown : ∀ (d : Nat) (ts : List (Key × T)), smk d ts = true → norawk ts = true ∧ PyData.showableKv (prk ts) = true ∧ PyData.depthKv (prk ts) ≤ d ∧ PyData.weightKv (prk ts) ≤ ts.length * (hvy d + 23) ∧ PyData.leavesShortKv 22 (prk ts) = true
  | d, [], _ => ⟨rfl, rfl, Nat.zero_le _, Nat.zero_le _, rfl⟩
  | d, (k, t) :: ts, h => by
    have h := (Bool.and_eq_true _ _).mp (show (keySm k && (t.sm d && smk d ts)) = true from h)
    have h2 := (Bool.and_eq_true _ _).mp h.2
    obtain ⟨n1, s1⟩ := T.sm_shown d t h2.1
    obtain ⟨n2, a, b, c, e⟩ := smk_shown d ts h2.2
    have hk : Shown d 21 (keyP k) := by
      cases k with
      | inl i => exact shown_int (of_decide_eq_true h.1) d
      | inr x => cases h.1
    refine ⟨by show (t.noraw && norawk ts) = true; rw [n1, n2] <;> rfl, ?_, ?_, ?_, ?_⟩
    · simp only [prk, PyData.showableKv, hk.sh, s1.sh, a, Bool.and_self]
    · have := s1.dp
      have := hk.dp
      simp only [prk, PyData.depthKv]
      omega
    · have := s1.wt
      have := hk.wt
      simp only [prk, PyData.weightKv, List.length_cons, Nat.succ_mul]
      omega
    · simp only [prk, PyData.leavesShortKv, hk.lf, s1.lf, e, Bool.and_self]
theorem hvy_le : ∀ d : Nat, 21 ≤ hvy d
  | 0 => Nat.le_refl _
  | d + 1 => by
    show 21 ≤ 8 * (hvy d + 24)
    omega
end
theorem wc_reprS {K : PySem.W.Frag} {R : Rs} {p : T → Prop} {t : T} (d : Nat) (h : t.sm d = true) (hd : d ≤ 4) (tp : t.prTop = true) (k : p (.str t.pr.shown)) : wC K R (rRepr K) [t] p := by
  obtain ⟨n, s⟩ := T.sm_shown d t h
  refine wc_repr tp n s.sh (Nat.le_trans s.dp (by omega)) ?_ k
  have h1 := PyData.shown_le 22 (by decide) _ s.lf
  have h2 : hvy d ≤ hvy 4 := by
    have : ∀ n m : Nat, n ≤ m → hvy n ≤ hvy m := fun n m hnm => by
      induction hnm with
      | refl => exact Nat.le_refl _
      | step _ ih => exact Nat.le_trans ih (by show hvy _ ≤ 8 * (hvy _ + 24); omega)
    exact this d 4 hd
  have h3 : hvy 4 = 198240 ∨ hvy 4 ≤ 300000 := .inr (by decide)
  have h4 := s.wt
  have h5 : (sizeLine : Nat) = 16777216 := by decide
  rcases h3 with h3 | h3 <;> omega
theorem room_100 {k : Nat} {A : Around} (h : Room k A) : A.units + 100 < cLine := by
  have := h.un
  omega
end Zc
/-! Bu: what is not asked about makes no difference; chances over more entries. -/
namespace Zc
open PySem L2
/-- e makes no difference -/
def Free (F : (Int → Bool) → Bool) (e : Int) : Prop := ∀ σ b, F (put σ e b) = F σ
theorem put_comm {σ : Int → Bool} {x y : Int} {b c : Bool} (h : x ≠ y) : put (put σ x b) y c = put (put σ y c) x b := by
  funext z
  unfold put
  by_cases h1 : z = y
  · rw [if_pos h1, if_neg (show ¬ z = x from fun q => h (q.symm.trans h1)), if_pos h1]
  · rw [if_neg h1]
    by_cases h2 : z = x
    · rw [if_pos h2, if_pos h2]
    · rw [if_neg h2, if_neg h2, if_neg h1]
theorem Free.put {F : (Int → Bool) → Bool} {e x : Int} {b : Bool} (h : Free F x) (hx : x ≠ e) : Free (fun σ => F (put σ e b)) x := fun σ c => by
  show F (Zc.put (Zc.put σ x c) e b) = F (Zc.put σ e b)
  rw [put_comm hx, h]
def onMem (F : (Int → Bool) → Bool) (p : List Int) : Bool := F fun e => decide (e ∈ p)
theorem onMem_cons {F : (Int → Bool) → Bool} {e : Int} {p : List Int} : onMem F (e :: p) = onMem (fun σ => F (put σ e true)) p := by
  unfold onMem
  rw [mem_put]
theorem wSum_filter {o : Int} {c : Int → Int} {D : List Int} : ∀ {E : List Int} {F : (Int → Bool) → Bool}, E.Nodup → (∀ e, e ∈ E → e ∉ D → Free F e) →
    wSum o c E (onMem F) = o ^ (E.length - (E.filter fun e => decide (e ∈ D)).length) * wSum o c (E.filter fun e => decide (e ∈ D)) (onMem F)
  | [], F, _, _ => by
    show wSum o c [] (onMem F) = o ^ 0 * wSum o c [] (onMem F)
    rw [Int.pow_zero, Int.one_mul]
  | e :: E, F, nd, h => by
    have nd' := List.nodup_cons.mp nd
    have hF := fun x hx => h x (List.mem_cons_of_mem _ hx)
    have fl : (E.filter fun e => decide (e ∈ D)).length ≤ E.length := List.length_filter_le ..
    by_cases he : e ∈ D
    · have ne : ∀ x, x ∈ E → x ≠ e := fun x hx z => nd'.1 (z ▸ hx)
      have i1 := wSum_filter (o := o) (c := c) (D := D) (F := F) nd'.2 hF
      have i2 := wSum_filter (o := o) (c := c) (D := D) (F := fun σ => F (put σ e true)) nd'.2 fun x hx hd => (hF x hx hd).put (ne x hx)
      have e1 : (e :: E).filter (fun e => decide (e ∈ D)) = e :: E.filter fun e => decide (e ∈ D) := by rw [List.filter_cons, if_pos (decide_eq_true he)]
      have hno : e ∉ E.filter fun e => decide (e ∈ D) := fun z => nd'.1 (List.mem_filter.mp z).1
      rw [e1, wSum_cons nd'.1, wSum_cons hno, wSum_congr (φ := fun p => onMem F (e :: p)) fun p _ => onMem_cons, wSum_congr (D := E.filter _) (φ := fun p => onMem F (e :: p)) fun p _ => onMem_cons, i1, i2, List.length_cons, List.length_cons, Nat.add_sub_add_right]
      generalize o ^ (E.length - (E.filter fun e => decide (e ∈ D)).length) = k
      rw [Int.mul_add, Int.mul_left_comm, Int.mul_left_comm (c e)]
    · have e1 : (e :: E).filter (fun e => decide (e ∈ D)) = E.filter fun e => decide (e ∈ D) := by rw [List.filter_cons, if_neg (by simpa using he)]
      rw [e1, wSum_free nd'.1 fun p _ => ?_, wSum_filter nd'.2 hF, List.length_cons, show E.length + 1 - (E.filter fun e => decide (e ∈ D)).length = (E.length - (E.filter fun e => decide (e ∈ D)).length) + 1 by omega, Int.pow_succ, ← Int.mul_assoc, Int.mul_comm o]
      rw [onMem_cons]
      exact h e List.mem_cons_self he _ _
theorem den_free {ns : List Nd} (g : Good ns) {e : Int} : ∀ c : Nat, c < ns.length + 2 → ¬ Asks ns c e → Free (den ns c) e := by
  intro c
  induction c using Nat.strongRecOn with
  | _ c ih =>
    intro hc ha σ b
    cases hn : node ns c with
    | none =>
      have c2 : c < 2 := Nat.lt_of_not_le fun q => by
        obtain ⟨n, z⟩ := node_some q hc
        rw [hn] at z
        cases z
      rcases (show c = 0 ∨ c = 1 by omega) with rfl | rfl
      · rw [den_0, den_0]
      · rw [den_1, den_1]
    | some n =>
      obtain ⟨k1, k2, _⟩ := g.kids hn
      have he : n.e ≠ e := fun q => ha ⟨c, n, .refl, hn, q⟩
      have sub : ∀ k, k < c → (1 < k → Sub ns c k) → ¬ Asks ns k e := fun k hk hs ⟨i, m, h1, h2, h3⟩ => by
        rcases Nat.lt_or_ge 1 k with q | q
        · exact ha ⟨i, m, (hs q).trans h1, h2, h3⟩
        · exact absurd (AllIn.leaf (D := []) (show k < 2 by omega) e ⟨i, m, h1, h2, h3⟩) List.not_mem_nil
      rw [den_node g hn, den_node g hn, put_ne he, ih n.t k2 (by omega) (sub _ k2 (sub_t hn)) σ b, ih n.w k1 (by omega) (sub _ k1 (sub_w hn)) σ b]
theorem filter_asc {D E : List Int} (hD : D.Pairwise (· < ·)) (hE : E.Pairwise (· < ·)) (h : ∀ e, e ∈ D → e ∈ E) : (E.filter fun e => decide (e ∈ D)) = D := by
  refine asc_unique (hE.sublist List.filter_sublist) hD fun k => ?_
  rw [List.mem_filter, decide_eq_true_eq]
  exact ⟨fun z => z.2, fun z => ⟨h k z, z⟩⟩
theorem wSum_asked {ns : List Nd} (g : Good ns) {c : Nat} (hc : c < ns.length + 2) {D E : List Int} (hD : D.Pairwise (· < ·)) (hE : E.Pairwise (· < ·)) (h : ∀ e, e ∈ D → e ∈ E) (al : ∀ e, Asks ns c e → e ∈ D) {o : Int} {cf : Int → Int} :
    wSum o cf E (phi ns c) = o ^ (E.length - D.length) * wSum o cf D (phi ns c) := by
  have := wSum_filter (o := o) (c := cf) (D := D) (E := E) (F := den ns c) (hE.imp fun h => by omega) fun e _ hd => den_free g c hc fun q => hd (al e q)
  rw [filter_asc hD hE h] at this
  exact this
theorem chance_eq {ns : List Nd} (g : Good ns) {c : Nat} (hc : c < ns.length + 2) {D E : List Int} (hD : D.Pairwise (· < ·)) (hE : E.Pairwise (· < ·)) (h : ∀ e, e ∈ D → e ∈ E) (al : ∀ e, Asks ns c e → e ∈ D) {o : Int} {cf : Int → Int} (ho : 1 ≤ o) :
    lowT (wSum o cf E (phi ns c)) (o ^ E.length) = lowT (wSum o cf D (phi ns c)) (o ^ D.length) := by
  have hl : D.length ≤ E.length := nodup_le (hD.imp fun h => by omega) h
  rw [wSum_asked g hc hD hE h al, show o ^ E.length = o ^ (E.length - D.length) * o ^ D.length by rw [← Int.pow_add, Nat.sub_add_cancel hl]]
  exact lowT_scale (by
    have := pow_le_pow_r ho (Nat.zero_le (E.length - D.length))
    rw [Int.pow_zero] at this
    omega)
/-! ### parts as data -/
def unI : T → Int
  | .int i => i
  | _ => 0
def unL : T → List Int
  | .lst ts => ts.map unI
  | .tup ts => ts.map unI
  | _ => []
theorem unL_ints {p : List Int} : unL (.lst (p.map .int)) = p := by
  show (p.map T.int).map unI = p
  rw [List.map_map]
  exact List.map_id' p
def lstT (p : List Int) : T := .lst (p.map .int)
theorem filter_lstT {φ : List Int → Bool} {ps : List (List Int)} : ((ps.map lstT).filter fun t => φ (unL t)).map id = (ps.filter φ).map lstT := by
  rw [List.map_id, List.filter_map]
  congr 1
  refine List.filter_congr fun p _ => ?_
  show φ (unL (.lst (p.map .int))) = φ p
  rw [unL_ints]
theorem map_lstT {f : List Int → Int} {ps : List (List Int)} : (((ps.map lstT).filter fun _ => true).map fun t => T.int (f (unL t))) = (ps.map f).map T.int := by
  rw [List.filter_eq_self.mpr fun _ _ => rfl, List.map_map, List.map_map]
  refine List.map_congr_left fun p _ => ?_
  show T.int (f (unL (.lst (p.map .int)))) = T.int (f p)
  rw [unL_ints]
theorem EOk.wide {m n : Nat} {E : List Int} (h : EOk m E) (hm : m ≤ n) : EOk n E := ⟨h.1, h.2.1, Nat.le_trans h.2.2.1 hm, h.2.2.2⟩
theorem EOk.nd {m : Nat} {E : List Int} (h : EOk m E) : E.Nodup := h.1.imp fun h => by omega
theorem cases_sm {E : List Int} {o : Int} {c : Int → Int} (h : EOk 8 E) (ho : o ≤ 1000) (hc : ∀ e, e ∈ E → 0 ≤ c e ∧ c e ≤ o) : (T.dct (E.map fun e => (Sum.inl e, .int (c e)))).sm 1 = true := by
  show (smk 0 (E.map fun e => (Sum.inl e, T.int (c e))) && decide ((E.map fun e => ((Sum.inl e : Key), T.int (c e))).length ≤ 8)) = true
  rw [List.length_map, decide_eq_true h.2.2.1, Bool.and_true]
  have key : ∀ D : List Int, (∀ e, e ∈ D → (0 ≤ e ∧ e < 2000) ∧ 0 ≤ c e ∧ c e ≤ o) → smk 0 (D.map fun e => (Sum.inl e, T.int (c e))) = true := fun D => by
    induction D with
    | nil => exact fun _ => rfl
    | cons e D ih =>
      intro hD
      have h1 := hD e List.mem_cons_self
      show (decide (e.natAbs < 1048576) && (decide ((c e).natAbs < 1048576) && _)) = true
      rw [ih fun x hx => hD x (List.mem_cons_of_mem _ hx), decide_eq_true (by omega), decide_eq_true (by omega)] <;> rfl
  exact key E fun e he => ⟨h.2.2.2 e he, hc e he⟩
section
variable {K : PySem.W.Frag} {R : Rs} {B : Bs R} {g : R.G} {es : List Ent} {nx bk ct : R.G → List Ent → Prop} {rt : T → R.G → Prop}
theorem wq_ex {ι : Type} {t : ι → TS} (i : ι) (h : wQ K R B (t i) g es nx rt bk ct) : wQ K R B (fun D σ H => ∃ i, t i D σ H) g es nx rt bk ct := fun F σ H ok D d => ⟨i, h F σ H ok D d⟩
theorem pss_ex {ι : Type} {X : Cx} {st : List Stmt} {t : ι → TS} (h : ∀ i, PSs X st (t i)) : PSs X st (fun D σ H => ∃ i, t i D σ H) := ⟨fun pins s σ H D I ⟨i, q⟩ => (h i).run pins s σ H D I q⟩
end
theorem lowT_plain {a b : Int} : (lowT a b).plain 1 = true := by
  unfold lowT
  exact plain_tup (fun t ht => by
    rcases List.mem_cons.mp ht with rfl | ht
    · exact plain_int
    · cases List.mem_singleton.mp ht
      exact plain_int) (by show 2 ≤ 1000; decide)
end Zc
/-! Bv: what a diagram asks about makes a difference; chances given a condition. -/
namespace Zc
open PySem L2
theorem free_sub {ns : List Nd} (g : Good ns) {e : Int} {c i : Nat} (h : Sub ns c i) (hc : c < ns.length + 2) (f : Free (den ns c) e) : i < ns.length + 2 ∧ Free (den ns i) e := by
  induction h with
  | refl => exact ⟨hc, f⟩
  | step h1 hk ih =>
    rename_i i j
    obtain ⟨hi, fi⟩ := ih
    obtain ⟨n, hn⟩ := kids_node hk
    obtain ⟨q1, q2, q3, q4, q5⟩ := g.kids hn
    have hj : j = n.w ∨ j = n.t := by
      have := hk
      unfold kids at this
      rw [hn] at this
      have := (List.mem_filter.mp this).1
      rcases List.mem_cons.mp this with z | z
      · exact .inl z
      · exact .inr (List.mem_singleton.mp z)
    have hil := (node_lt hn).2.1
    rcases hj with rfl | rfl
    · refine ⟨by omega, fun σ b => ?_⟩
      by_cases he : e = n.e
      · subst he
        exact den_put g (by omega) q4
      · rw [← den_w g hn, ← den_w g hn σ, put_comm he, fi]
    · refine ⟨by omega, fun σ b => ?_⟩
      by_cases he : e = n.e
      · subst he
        exact den_put g (by omega) q5
      · rw [← den_t g hn, ← den_t g hn σ, put_comm he, fi]
theorem asks_not_free {ns : List Nd} (g : Good ns) {e : Int} {c : Nat} (hc : c < ns.length + 2) (f : Free (den ns c) e) : ¬ Asks ns c e := fun ⟨i, n, h1, hn, h3⟩ => by
  obtain ⟨hi, fi⟩ := free_sub g h1 hc f
  obtain ⟨q1, q2, q3, q4, q5⟩ := g.kids hn
  subst h3
  refine q3 (canon_eq g (by omega) (by omega) fun σ => ?_)
  rw [← den_w g hn, ← den_t g hn, fi, fi]
theorem asks_iff {ns : List Nd} (g : Good ns) {e : Int} {c : Nat} (hc : c < ns.length + 2) : Asks ns c e ↔ ¬ Free (den ns c) e :=
  ⟨fun h f => asks_not_free g hc f h, fun h => Classical.byContradiction fun q => h (den_free g c hc q)⟩
/-- what neither asks about, their conjunction does not -/
theorem both_in {ns ms : List Nd} (g : Good ns) (g' : Good ms) {c b : Nat} (hc : c < ns.length + 2) (hb : b < ms.length + 2) {e : Int} (hd : ∀ σ, den ms b σ = (den ns c σ && σ e)) {W : List Int} (al : AllIn ns W c) (he : e ∈ W) : AllIn ms W b := fun x hx => by
  refine Classical.byContradiction fun q => asks_not_free g' hb (fun σ v => ?_) hx
  have hxe : e ≠ x := fun z => q (z ▸ he)
  rw [hd, hd, den_free g c hc (fun z => q (al x z)), put_ne hxe]
def lowN (a b : Int) : Int := a / ((Nat.gcd a.natAbs b.natAbs : Nat) : Int)
def lowD (a b : Int) : Int := b / ((Nat.gcd a.natAbs b.natAbs : Nat) : Int)
theorem lowT_eq (a b : Int) : lowT a b = .tup [.int (lowN a b), .int (lowD a b)] := rfl
def trip (e a b : Int) : T := .tup [.int e, .int (lowN a b), .int (lowD a b)]
theorem low_scale {k a b : Int} (hk : 0 < k) : lowN (k * a) (k * b) = lowN a b ∧ lowD (k * a) (k * b) = lowD a b := by
  have h := lowT_scale (a := a) (b := b) hk
  rw [lowT_eq, lowT_eq] at h
  injection h with h
  injection h with h1 h2
  injection h2 with h2 h3
  injection h1 with h1
  injection h2 with h2
  exact ⟨h1, h2⟩
theorem trip_scale {k a b e : Int} (hk : 0 < k) : trip e (k * a) (k * b) = trip e a b := by
  obtain ⟨h1, h2⟩ := low_scale (a := a) (b := b) hk
  unfold trip
  rw [h1, h2]
/-- the chances of entries given what F tells -/
def givT (o : Int) (cf : Int → Int) (E : List Int) (φ : List Int → Bool) (ls : List Int) : T :=
  if wSum o cf E φ = 0 then .non else .lst (ls.map fun e => trip e (wSum o cf E fun p => φ p && decide (e ∈ p)) (wSum o cf E φ))
theorem wSum_in {o : Int} {cf : Int → Int} {F : (Int → Bool) → Bool} {W E : List Int} (hW : W.Pairwise (· < ·)) (hE : E.Pairwise (· < ·)) (h : ∀ e, e ∈ W → e ∈ E) (fr : ∀ e, e ∉ W → Free F e) : wSum o cf E (onMem F) = o ^ (E.length - W.length) * wSum o cf W (onMem F) := by
  have := wSum_filter (o := o) (c := cf) (D := W) (E := E) (F := F) (hE.imp fun h => by omega) fun e _ hd => fr e hd
  rw [filter_asc hW hE h] at this
  exact this
theorem pow_pos1 {o : Int} (ho : 1 ≤ o) (k : Nat) : 0 < o ^ k := by
  have := pow_le_pow_r ho (Nat.zero_le k)
  rw [Int.pow_zero] at this
  omega
/-- one entry's part -/
theorem given_one {ns ms : List Nd} (g : Good ns) (g' : Good ms) {c b : Nat} (hc : c < ns.length + 2) (hb : b < ms.length + 2) {e : Int} (hd : ∀ σ, den ms b σ = (den ns c σ && σ e)) {W E : List Int} (al : AllIn ns W c) (he : e ∈ W) (hW : W.Pairwise (· < ·)) (hE : E.Pairwise (· < ·)) (h : ∀ e, e ∈ W → e ∈ E) {o : Int} {cf : Int → Int} (ho : 1 ≤ o) :
    trip e (wSum o cf W (phi ms b)) (wSum o cf W (phi ns c)) = trip e (wSum o cf E fun p => phi ns c p && decide (e ∈ p)) (wSum o cf E (phi ns c)) := by
  have h1 : wSum o cf E (phi ns c) = o ^ (E.length - W.length) * wSum o cf W (phi ns c) := wSum_in (F := den ns c) hW hE h fun x hx => den_free g c hc fun z => hx (al x z)
  have al' := both_in g g' hc hb hd al he
  have h2 : wSum o cf E (phi ms b) = o ^ (E.length - W.length) * wSum o cf W (phi ms b) := wSum_in (F := den ms b) hW hE h fun x hx => den_free g' b hb fun z => hx (al' x z)
  rw [show wSum o cf E (fun p => phi ns c p && decide (e ∈ p)) = wSum o cf E (phi ms b) from wSum_congr fun p _ => (hd _).symm, h1, h2, trip_scale (pow_pos1 ho _)]
theorem given_none {ns : List Nd} (g : Good ns) {c : Nat} (hc : c < ns.length + 2) {D E : List Int} (al : AllIn ns D c) (hD : D.Pairwise (· < ·)) (hE : E.Pairwise (· < ·)) (h : ∀ e, e ∈ D → e ∈ E) {o : Int} {cf : Int → Int} (ho : 1 ≤ o) : wSum o cf D (phi ns c) = 0 ↔ wSum o cf E (phi ns c) = 0 := by
  have h1 : wSum o cf E (phi ns c) = o ^ (E.length - D.length) * wSum o cf D (phi ns c) := wSum_in (F := den ns c) hD hE h fun x hx => den_free g c hc fun z => hx (al x z)
  have := pow_pos1 ho (E.length - D.length)
  rw [h1]
  constructor
  · intro z
    rw [z, Int.mul_zero]
  · intro z
    rcases Int.mul_eq_zero.mp z with q | q
    · omega
    · exact q
def p_given {R : Rs} {C : Addr} {E : List Int} (hs : HasStore R C E) : DSp R := fun ts g post => ∃ (s : SG) (c : Nat) (kvs : List (Key × T)) (ls : List Int) (o : Int) (cf : Int → Int), ts = [.raw (.ref s.a), .int (c : Int), .dct kvs, .lst (ls.map .int), .int o] ∧ hs.sg g = some s ∧
  (s.Ok E ∧ c < s.ns.length + 2 ∧ s.ns.length + 10000 < 100000 ∧ s.rs.length + 10000 < sizeLine ∧ EOk 5 E ∧ 1 ≤ o ∧ o ≤ 1000 ∧ CasesOk E o cf kvs ∧ (∀ e, e ∈ ls → e ∈ E) ∧ ls.length ≤ 5) ∧
  ∀ g' s', hs.sg g' = some s' → s'.Ok E → Ext s s' 1280 1280 → post (givT o cf E (phi s.ns c) ls) g'
theorem givT_plain {o : Int} {cf : Int → Int} {E ls : List Int} {φ : List Int → Bool} (h : ls.length ≤ 5) : (givT o cf E φ ls).plain 2 = true := by
  unfold givT
  split
  · rfl
  · refine plain_lst (fun t ht => ?_) (by rw [List.length_map]; omega)
    obtain ⟨e, _, rfl⟩ := List.mem_map.mp ht
    refine plain_tup (fun t ht => ?_) (by show 3 ≤ 1000; decide)
    rcases List.mem_cons.mp ht with rfl | ht
    · exact plain_int
    · rcases List.mem_cons.mp ht with rfl | ht
      · exact plain_int
      · cases List.mem_singleton.mp ht
        exact plain_int
end Zc
/-! Bw: some of a list, by any test. -/
namespace Zc
open PySem L2
section
variable {K : PySem.W.Frag} {R : Rs} {B : Bs R} {g : R.G} {es : List Ent} {post : T → R.G → List Ent → Prop} {tt : TT}
theorem we_lcSub {i : Nat} {wi : TI} (h : wI K R B wi g es fun xs g1 es1 => xs.length ≤ 100000 ∧ NoOwn [i] es1 ∧ i < es1.length ∧ (∀ x ∈ xs, wT K R B tt g1 (es1.set i (.dat x)) fun b g2 e2 => g2 = g1 ∧ e2 = es1.set i (.dat x)) ∧ ∀ ys : List T, ys.Sublist xs → post (.lst ys) g1 es1) :
    wE K R B (tLc wi (gName i) tt (tVar i) [i]) g es post := by
  refine we_lc (tgt_name i [i] (List.mem_singleton.mpr rfl)) fun F σ H ok Q q => h F σ H ok Q fun J xs g1 es1 F1 H1 l o s hh => q J xs g1 es1 F1 H1 l o s ?_
  obtain ⟨hl, no, hi, he, hp⟩ := hh
  refine ⟨no, fun n acc g2 => g2 = g1 ∧ acc.Sublist (xs.take n), ⟨rfl, List.Sublist.refl _⟩, fun n x acc g2 hx hacc => ?_, fun acc g2 hacc => ?_⟩
  · obtain ⟨rfl, hacc⟩ := hacc
    have e1 : xs.take (n + 1) = xs.take n ++ [x] := by rw [List.take_add_one, hx] <;> rfl
    refine ⟨es1.set i (.dat x), ?_, ?_, ?_⟩
    · show es1.set i (.dat x) = (es1.set i .any).set i (.dat x)
      rw [List.set_set]
    · intro j e hj hje
      cases (List.mem_singleton.mp hj)
      rcases set_get hje with ⟨_, rfl, _⟩ | ⟨ne, _⟩
      · rfl
      · exact absurd rfl ne
    · refine fun F σ H ok Q q => he x (List.mem_of_getElem? hx) F σ H ok Q fun b g2 e2 F2 H2 l2 o2 hb => q b g2 e2 F2 H2 l2 o2 ?_
      obtain ⟨rfl, rfl⟩ := hb
      refine ⟨rfl, ?_⟩
      cases b with
      | false =>
        refine ⟨rfl, ?_⟩
        rw [e1]
        exact hacc.trans (List.sublist_append_left _ _)
      | true =>
        show wE K R B (tVar i) _ _ _
        have h2 : acc.length ≤ xs.length := Nat.le_trans hacc.length_le (by rw [List.length_take]; omega)
        refine we_var (List.getElem?_set_self hi) ⟨rfl, Nat.lt_of_le_of_lt h2 (Nat.lt_of_le_of_lt hl (by decide)), rfl, ?_⟩
        rw [e1]
        exact hacc.append (List.Sublist.refl _)
  · obtain ⟨rfl, hacc⟩ := hacc
    rw [List.take_length] at hacc
    exact hp acc hacc
end
theorem sub_ints {E : List Int} {ys : List T} (h : ys.Sublist (E.map .int)) : ∃ ls : List Int, ys = ls.map .int ∧ ls.Sublist E := by
  obtain ⟨ls, h1, rfl⟩ := List.sublist_map_iff.mp h
  exact ⟨ls, rfl, h1⟩
end Zc
/-! By: a slot that may be a list; small data. -/
namespace Zc
open PySem L2
/-- a slot with this datum: shared, or an own list -/
def Slot (e : Ent) (t : T) : Prop := e = .dat t ∨ ∃ ts, t = .lst ts ∧ e = .lst ts
section
variable {K : PySem.W.Frag} {R : Rs} {B : Bs R} {g : R.G} {es : List Ent} {post : T → R.G → List Ent → Prop}
theorem we_slot {i : Nat} {e : Ent} {t : T} (he : es[i]? = some e) (s : Slot e t) (h : post t g (es.set i (.dat t))) : wE K R B (tVar i) g es post := by
  rcases s with rfl | ⟨ts, rfl, rfl⟩
  · refine we_var he ?_
    have : es.set i (.dat t) = es := by
      refine List.ext_getElem? fun j => ?_
      rw [List.getElem?_set]
      by_cases q : i = j
      · subst q
        rw [if_pos rfl, he]
        simp [(List.getElem?_eq_some_iff.mp he).1]
      · rw [if_neg q]
    rw [this] at h
    exact h
  · exact we_own he h
end
theorem sms_all {d : Nat} : ∀ {ts : List T}, (∀ t, t ∈ ts → t.sm d = true) → sms d ts = true
  | [], _ => by cases d <;> rfl
  | t :: ts, h => by
    show (t.sm d && sms d ts) = true
    rw [h t List.mem_cons_self, sms_all fun x hx => h x (List.mem_cons_of_mem _ hx)] <;> rfl
theorem sm_lst {d : Nat} {ts : List T} (h : ∀ t, t ∈ ts → t.sm d = true) (hl : ts.length ≤ 8) : (T.lst ts).sm (d + 1) = true := by
  show (sms d ts && decide (ts.length ≤ 8)) = true
  rw [sms_all h, decide_eq_true hl] <;> rfl
theorem sm_tup {d : Nat} {ts : List T} (h : ∀ t, t ∈ ts → t.sm d = true) (hl : ts.length ≤ 8) : (T.tup ts).sm (d + 1) = true := by
  show (sms d ts && decide (ts.length ≤ 8)) = true
  rw [sms_all h, decide_eq_true hl] <;> rfl
theorem sm_int {d : Nat} {i : Int} (h : i.natAbs < 1048576) : (T.int i).sm d = true := by
  cases d <;> exact decide_eq_true h
theorem sm_ints {d : Nat} {ls : List Int} (h : ∀ e, e ∈ ls → 0 ≤ e ∧ e < 2000) (hl : ls.length ≤ 8) : (T.lst (ls.map .int)).sm (d + 1) = true :=
  sm_lst (fun t ht => by
    obtain ⟨e, he, rfl⟩ := List.mem_map.mp ht
    have := h e he
    exact sm_int (by omega)) (by rw [List.length_map]; exact hl)
theorem sm_two {d : Nat} {x y : T} (hx : x.sm d = true) (hy : y.sm d = true) : (T.lst [x, y]).sm (d + 1) = true :=
  sm_lst (fun t ht => by
    rcases List.mem_cons.mp ht with rfl | ht
    · exact hx
    · cases List.mem_singleton.mp ht
      exact hy) (show 2 ≤ 8 by decide)
end Zc
/-! Bz: a condition once it is known of an entry whether it is there. -/
namespace Zc
open PySem L2
theorem kids_or {ns : List Nd} {i j : Nat} {n : Nd} (hn : node ns i = some n) (hk : j ∈ kids ns i) : (j = n.w ∨ j = n.t) ∧ 1 < j := by
  unfold kids at hk
  rw [hn] at hk
  obtain ⟨h1, h2⟩ := List.mem_filter.mp hk
  refine ⟨?_, of_decide_eq_true h2⟩
  rcases List.mem_cons.mp h1 with z | z
  · exact .inl z
  · exact .inr (List.mem_singleton.mp z)
theorem sub_left {ns : List Nd} {c i : Nat} (h : Sub ns c i) : i = c ∨ ∃ n, node ns c = some n ∧ (Sub ns n.w i ∨ Sub ns n.t i) := by
  induction h with
  | refl => exact .inl rfl
  | step h1 hk ih =>
    rcases ih with rfl | ⟨n, hn, q⟩
    · obtain ⟨n, hn⟩ := kids_node hk
      rcases (kids_or hn hk).1 with rfl | rfl
      · exact .inr ⟨n, hn, .inl .refl⟩
      · exact .inr ⟨n, hn, .inr .refl⟩
    · exact .inr ⟨n, hn, q.imp (fun z => z.step hk) fun z => z.step hk⟩
theorem below_few {E : List Int} {s : SG} (k : s.Ok E) : ∀ r c, c < s.ns.length + 2 → rank E s.ns c ≤ r → ∃ u : List Nat, u.length + 1 ≤ 2 ^ r ∧ ∀ i, Sub s.ns c i → 1 < i → i ∈ u
  | 0, c, hc, hr => by
    refine ⟨[], by simp, fun i hi h1 => ?_⟩
    have c2 : c < 2 := Nat.lt_of_not_le fun q => by
      have := rank_pos k q hc
      omega
    rcases sub_left hi with rfl | ⟨n, hn, _⟩
    · omega
    · have := (node_lt hn).1
      omega
  | r + 1, c, hc, hr => by
    rcases Nat.lt_or_ge c 2 with c2 | c2
    · refine ⟨[], Nat.one_le_two_pow, fun i hi h1 => ?_⟩
      rcases sub_left hi with rfl | ⟨n, hn, _⟩
      · omega
      · have := (node_lt hn).1
        omega
    · obtain ⟨n, hn⟩ := node_some c2 hc
      obtain ⟨q1, q2, _⟩ := k.good.kids hn
      have r1 := rank_top k hn (k.good.topw hn)
      have r2 := rank_top k hn (k.good.topt hn)
      obtain ⟨u, l1, h1⟩ := below_few k r n.w (by omega) (by omega)
      obtain ⟨v, l2, h2⟩ := below_few k r n.t (by omega) (by omega)
      refine ⟨c :: (u ++ v), ?_, fun i hi hi1 => ?_⟩
      · rw [List.length_cons, List.length_append, Nat.pow_succ]
        omega
      · rcases sub_left hi with rfl | ⟨m, hm, q⟩
        · exact List.mem_cons_self
        · rw [hn] at hm
          cases hm
          refine List.mem_cons_of_mem _ (List.mem_append.mpr ?_)
          exact q.imp (fun z => h1 i z hi1) fun z => h2 i z hi1
theorem reached_few {E : List Int} {s : SG} (k : s.Ok E) {c : Nat} {l : List Nat} (hc : c < s.ns.length + 2) (rc : Reached s.ns [c] l) (hE : E.length ≤ 8) : l.length ≤ 255 := by
  obtain ⟨u, h1, h2⟩ := below_few k 8 c hc (Nat.le_trans rank_le hE)
  have := nodup_le rc.tp.nd (L := u) fun i hi => by
    obtain ⟨c', hc', hs⟩ := rc.sub i hi
    cases List.mem_singleton.mp hc'
    exact h2 i hs (by have := (rc.tp.rg i hi).1; omega)
  omega
theorem top_of_free {ns : List Nd} (g : Good ns) {e : Int} {r : Nat} (hr : r < ns.length + 2) (h : ∀ x, x ≤ e → Free (den ns r) x) : Top ns e r := fun m hm =>
  Int.lt_of_not_ge fun q => asks_not_free g hr (h m.e q) ⟨r, m, .refl, hm, rfl⟩
theorem put_put {σ : Int → Bool} {e : Int} {b c : Bool} : put (put σ e c) e b = put σ e b := by
  funext z
  unfold put
  by_cases h : z = e
  · rw [if_pos h, if_pos h]
  · rw [if_neg h, if_neg h, if_neg h]
theorem Free.known {F : (Int → Bool) → Bool} {x e : Int} {b : Bool} (h : Free F x) : Free (fun σ => F (Zc.put σ e b)) x := by
  by_cases q : x = e
  · subst q
    intro σ c
    show F (Zc.put (Zc.put σ x c) x b) = F (Zc.put σ x b)
    rw [put_put]
  · exact h.put q
/-- the results so far -/
structure RTab (ns : List Nd) (e : Int) (b : Bool) (ms : List Nd) (l : List Nat) (n : Nat) (kvs : List (Key × T)) : Prop where
  get : ∀ i, i < 2 ∨ i ∈ l.take n → ∃ r : Nat, valT kvs (.inl (i : Int)) = some (.int (r : Int)) ∧ r < ms.length + 2 ∧ ∀ σ, den ms r σ = den ns i (put σ e b)
  len : kvs.length ≤ n + 2
theorem RTab.start {ns : List Nd} {e : Int} {b : Bool} {l : List Nat} : RTab ns e b ns l 0 (mergeT [] [(.inl 0, .int 0), (.inl 1, .int 1)]) := by
  have e0 : mergeT [] [((.inl 0 : Key), T.int 0), (.inl 1, .int 1)] = [(.inl 0, .int 0), (.inl 1, .int 1)] := rfl
  rw [e0]
  refine ⟨fun i hi => ?_, Nat.le_refl _⟩
  rcases hi with hi | hi
  · rcases (show i = 0 ∨ i = 1 by omega) with rfl | rfl
    · exact ⟨0, rfl, by omega, fun σ => by rw [den_0, den_0]⟩
    · exact ⟨1, rfl, by omega, fun σ => by rw [den_1, den_1]⟩
  · rw [List.take_zero] at hi
    cases hi
theorem RTab.ext {ns : List Nd} {e : Int} {b : Bool} {s1 s2 : SG} {E : List Int} {n r : Nat} {l : List Nat} {m : Nat} {kvs : List (Key × T)} (t : RTab ns e b s1.ns l m kvs) (x : Ext s1 s2 n r) (k : s2.Ok E) : RTab ns e b s2.ns l m kvs :=
  ⟨fun i hi => by
    obtain ⟨r, h1, h2, h3⟩ := t.get i hi
    have := x.len
    exact ⟨r, h1, by omega, fun σ => (x.den k h2).trans (h3 σ)⟩, t.len⟩
theorem RTab.step {ns ms : List Nd} {e : Int} {b : Bool} {l : List Nat} {n i r : Nat} {kvs : List (Key × T)} (t : RTab ns e b ms l n kvs) (h : l[n]? = some i) (hr : r < ms.length + 2) (hd : ∀ σ, den ms r σ = den ns i (put σ e b)) : RTab ns e b ms l (n + 1) (putT kvs (.inl (i : Int)) (.int (r : Int))) := by
  refine ⟨fun j hj => ?_, Nat.le_trans (putT_len _ _ _) (Nat.succ_le_succ t.len)⟩
  rw [valT_put]
  by_cases q : j = i
  · subst q
    exact ⟨r, by rw [if_pos rfl], hr, hd⟩
  · rw [if_neg (by intro z; injection z with z; omega)]
    refine t.get j (hj.imp id fun z => ?_)
    rw [List.take_add_one, h] at z
    rcases List.mem_append.mp z with z | z
    · exact z
    · exact absurd (List.mem_singleton.mp z) q
def p_restrict {R : Rs} {C : Addr} {E : List Int} (hs : HasStore R C E) : DSp R := fun ts g post => ∃ (s : SG) (c : Nat) (e : Int) (b : Bool), ts = [.raw (.ref s.a), .int (c : Int), .int e, .bl b] ∧ hs.sg g = some s ∧
  (s.Ok E ∧ c < s.ns.length + 2 ∧ E.length ≤ 8 ∧ s.ns.length + 300 < 100000) ∧
  ∀ (c' : Nat) g' s', hs.sg g' = some s' → s'.Ok E → Ext s s' 255 0 → c' < s'.ns.length + 2 → (∀ σ, den s'.ns c' σ = den s.ns c (put σ e b)) → post (.int (c' : Int)) g'
theorem den_kid_free {ns : List Nd} (g : Good ns) {i : Nat} {n : Nd} (hn : node ns i = some n) {k : Nat} (hk : k < ns.length + 2) (tk : Top ns n.e k) {x : Int} (hx : x ≤ n.e) : Free (den ns k) x := fun σ b =>
  den_put g hk fun m hm => by have := tk m hm; omega
end Zc
/-! Ca: lists of counts by size. -/
namespace Zc
open PySem L2
def val (X : Int) : List Int → Int
  | [] => 0
  | c :: cs => c + X * val X cs
def addC : List Int → List Int → List Int
  | [], b => b
  | a, [] => a
  | x :: a, y :: b => (x + y) :: addC a b
theorem addC_nil (a : List Int) : addC a [] = a := by cases a <;> rfl
theorem val_add (X : Int) : ∀ a b : List Int, val X (addC a b) = val X a + val X b
  | [], b => by
    show val X b = 0 + val X b
    omega
  | x :: a, [] => by
    show val X (x :: a) = val X (x :: a) + 0
    omega
  | x :: a, y :: b => by
    show (x + y) + X * val X (addC a b) = (x + X * val X a) + (y + X * val X b)
    rw [val_add X a b, Int.mul_add]
    omega
theorem addC_len : ∀ a b : List Int, (addC a b).length = max a.length b.length
  | [], b => by
    show b.length = max 0 b.length
    omega
  | x :: a, [] => by
    show (x :: a).length = max (x :: a).length 0
    omega
  | x :: a, y :: b => by
    show (addC a b).length + 1 = max (a.length + 1) (b.length + 1)
    rw [addC_len a b]
    omega
def step (cs : List Int) : List Int := addC cs (0 :: cs)
def wid : Nat → List Int → List Int
  | 0, cs => cs
  | k + 1, cs => step (wid k cs)
theorem val_step (X : Int) (cs : List Int) : val X (step cs) = (1 + X) * val X cs := by
  unfold step
  rw [val_add]
  show val X cs + (0 + X * val X cs) = _
  rw [Int.add_mul, Int.one_mul]
  omega
theorem val_wid (X : Int) (cs : List Int) : ∀ k, val X (wid k cs) = val X cs * (1 + X) ^ k
  | 0 => by
    show val X cs = val X cs * (1 + X) ^ 0
    rw [Int.pow_zero, Int.mul_one]
  | k + 1 => by
    show val X (step (wid k cs)) = _
    rw [val_step, val_wid X cs k, Int.pow_succ, Int.mul_comm (1 + X), Int.mul_assoc]
theorem step_len (cs : List Int) : (step cs).length = cs.length + 1 := by
  unfold step
  rw [addC_len, List.length_cons]
  omega
theorem wid_len (cs : List Int) : ∀ k, (wid k cs).length = cs.length + k
  | 0 => rfl
  | k + 1 => by
    show (step (wid k cs)).length = _
    rw [step_len, wid_len cs k] <;> rfl
/-- a sum by size -/
def lin : (Nat → Int) → List Int → Int
  | _, [] => 0
  | g, c :: cs => c * g 0 + lin (fun k => g (k + 1)) cs
theorem lin_add : ∀ (g : Nat → Int) (a b : List Int), lin g (addC a b) = lin g a + lin g b
  | g, [], b => by
    show lin g b = 0 + lin g b
    omega
  | g, x :: a, [] => by
    show lin g (x :: a) = lin g (x :: a) + 0
    omega
  | g, x :: a, y :: b => by
    show (x + y) * g 0 + lin _ (addC a b) = (x * g 0 + lin _ a) + (y * g 0 + lin _ b)
    rw [lin_add _ a b, Int.add_mul]
    omega
def negC (a : List Int) : List Int := a.map fun x => -x
theorem val_neg (X : Int) : ∀ a : List Int, val X (negC a) = - val X a
  | [] => rfl
  | x :: a => by
    show -x + X * val X (negC a) = -(x + X * val X a)
    rw [val_neg X a, Int.mul_neg]
    omega
theorem lin_neg : ∀ (g : Nat → Int) (a : List Int), lin g (negC a) = - lin g a
  | _, [] => rfl
  | g, x :: a => by
    show -x * g 0 + lin _ (negC a) = -(x * g 0 + lin _ a)
    rw [lin_neg _ a, Int.neg_mul]
    omega
theorem lin_zero : ∀ (d : List Int) (g : Nat → Int), (∀ X : Int, 1 ≤ X → val X d = 0) → lin g d = 0
  | [], _, _ => rfl
  | c :: d, g, h => by
    have c0 : c = 0 := by
      have h1 : ∀ X : Int, 1 ≤ X → X ∣ c := fun X hX => by
        have : c + X * val X d = 0 := h X hX
        exact ⟨- val X d, by rw [Int.mul_neg]; omega⟩
      have h2 := h1 ((c.natAbs : Int) + 1) (by omega)
      refine Classical.byContradiction fun q => ?_
      have h3 := Int.natAbs_dvd_natAbs.mpr h2
      have h4 := Nat.le_of_dvd (by omega) h3
      omega
    subst c0
    show 0 * g 0 + lin _ d = 0
    rw [Int.zero_mul, lin_zero d _ fun X hX => ?_]
    · rfl
    · have : 0 + X * val X d = 0 := h X hX
      rcases Int.mul_eq_zero.mp (show X * val X d = 0 by omega) with q | q
      · omega
      · exact q
theorem lin_eq {a b : List Int} (h : ∀ X : Int, val X a = val X b) (g : Nat → Int) : lin g a = lin g b := by
  have := lin_zero (addC a (negC b)) g fun X _ => by rw [val_add, val_neg, h]; omega
  rw [lin_add, lin_neg] at this
  omega
def mono : Nat → List Int
  | 0 => [1]
  | k + 1 => 0 :: mono k
theorem val_mono (X : Int) : ∀ k, val X (mono k) = X ^ k
  | 0 => by
    show 1 + X * 0 = X ^ 0
    rw [Int.pow_zero]
    omega
  | k + 1 => by
    show 0 + X * val X (mono k) = X ^ (k + 1)
    rw [val_mono X k, Int.pow_succ, Int.mul_comm]
    omega
theorem lin_mono : ∀ (g : Nat → Int) (k : Nat), lin g (mono k) = g k
  | g, 0 => by
    show 1 * g 0 + 0 = g 0
    omega
  | g, k + 1 => by
    show 0 * g 0 + lin _ (mono k) = g (k + 1)
    rw [lin_mono]
    omega
theorem wt_pow {X : Int} {p : List Int} : ∀ {D : List Int}, D.Nodup → p.Sublist D → wt (1 + X) (fun _ => X) p D = X ^ p.length
  | [], _, h => by
    cases h
    show (1 : Int) = X ^ 0
    rw [Int.pow_zero]
  | e :: D, nd, h => by
    obtain ⟨n1, n2⟩ := List.nodup_cons.mp nd
    cases h with
    | cons _ h =>
      have he : e ∉ p := fun q => n1 (h.subset q)
      show (if e ∈ p then X else 1 + X - X) * wt (1 + X) (fun _ => X) p D = _
      rw [if_neg he, wt_pow n2 h, show 1 + X - X = 1 by omega, Int.one_mul]
    | cons_cons _ h =>
      rename_i q
      show (if e ∈ e :: q then X else 1 + X - X) * wt (1 + X) (fun _ => X) (e :: q) D = _
      rw [if_pos List.mem_cons_self, wt_congr (q := q) fun x hx => ?_, wt_pow n2 h, List.length_cons, Int.pow_succ, Int.mul_comm]
      constructor
      · intro z
        rcases List.mem_cons.mp z with rfl | z
        · exact absurd hx n1
        · exact z
      · exact List.mem_cons_of_mem _
/-- what counts mean -/
theorem counts_mean {cs D : List Int} {φ : List Int → Bool} (nd : D.Nodup) (h : ∀ X : Int, val X cs = wSum (1 + X) (fun _ => X) D φ) (g : Nat → Int) : lin g cs = (((subC D).filter φ).map fun p => g p.length).sum := by
  have key : ∀ ps : List (List Int), (∀ p, p ∈ ps → p.Sublist D) → ∃ b : List Int, (∀ X : Int, val X b = (ps.map fun p => wt (1 + X) (fun _ => X) p D).sum) ∧ lin g b = (ps.map fun p => g p.length).sum := by
    intro ps
    induction ps with
    | nil => exact fun _ => ⟨[], fun _ => rfl, rfl⟩
    | cons p ps ih =>
      intro hp
      obtain ⟨b, h1, h2⟩ := ih fun q hq => hp q (List.mem_cons_of_mem _ hq)
      refine ⟨addC (mono p.length) b, fun X => ?_, ?_⟩
      · rw [val_add, val_mono, h1, List.map_cons, List.sum_cons, wt_pow nd (hp p List.mem_cons_self)]
      · rw [lin_add, lin_mono, h2, List.map_cons, List.sum_cons]
  obtain ⟨b, h1, h2⟩ := key ((subC D).filter φ) fun p hp => subC_sub (List.mem_filter.mp hp).1
  rw [← h2]
  exact lin_eq (fun X => (h X).trans (h1 X).symm) g
def fac : Nat → Nat
  | 0 => 1
  | n + 1 => (n + 1) * fac n
def facT (n : Nat) : T := .lst ((List.range (n + 1)).map fun k => .int (fac k : Int))
def p_added (R : Rs) : DSp R := fun ts g post => ∃ a b : List Int, ts = [.lst (a.map .int), .lst (b.map .int)] ∧ (a.length ≤ 100 ∧ b.length ≤ 100) ∧ post (.lst ((addC a b).map .int)) g
def p_widened (R : Rs) : DSp R := fun ts g post => ∃ (cs : List Int) (k : Nat), ts = [.lst (cs.map .int), .int (k : Int)] ∧ cs.length + k ≤ 99 ∧ post (.lst ((wid k cs).map .int)) g
def p_orders (R : Rs) : DSp R := fun ts g post => ∃ n : Nat, ts = [.int (n : Int)] ∧ n ≤ 8 ∧ post (facT n) g
def p_weighed (R : Rs) : DSp R := fun ts g post => ∃ (cs : List Int) (n m : Nat), ts = [.lst (cs.map .int), facT n, .int (m : Int)] ∧ (cs.length ≤ m + 1 ∧ m ≤ n ∧ n ≤ 8) ∧ post (.int (lin (fun k => (fac k : Int) * (fac (m - k) : Int)) cs)) g
end Zc
/-! Cb: counts, place by place. -/
namespace Zc
open PySem L2
theorem enum_ints {us : List Int} {n : Nat} {x : T} (h : (enumT (us.map .int))[n]? = some x) : ∃ c : Int, us[n]? = some c ∧ x = .tup [.int (n : Int), .int c] := by
  have hn : n < (enumT (us.map T.int)).length := (List.getElem?_eq_some_iff.mp h).1
  rw [enumT_len, List.length_map] at hn
  have he : us[n]? = some us[n] := List.getElem?_eq_getElem hn
  refine ⟨us[n], he, ?_⟩
  have := enumT_get (ts := us.map T.int) (i := n) (t := .int us[n]) (by rw [List.getElem?_map, he] <;> rfl)
  rw [this] at h
  exact (Option.some.inj h).symm
theorem atI_nat {ts : List T} {k : Nat} {t : T} (h : ts[k]? = some t) : atI ts (k : Int) = some t := by
  have hk : k < ts.length := (List.getElem?_eq_some_iff.mp h).1
  unfold atI ixN
  rw [if_pos (by omega), if_pos (by omega)]
  simpa using h
theorem atI_ints {us : List Int} {k : Nat} {c : Int} (h : us[k]? = some c) : atI (us.map T.int) (k : Int) = some (.int c) :=
  atI_nat (by rw [List.getElem?_map, h] <;> rfl)
theorem addC_comm : ∀ a b : List Int, addC a b = addC b a
  | [], b => (addC_nil b).symm
  | x :: a, [] => rfl
  | x :: a, y :: b => by
    show (x + y) :: addC a b = (y + x) :: addC b a
    rw [addC_comm a b, Int.add_comm]
theorem addC_get : ∀ {u v : List Int} {n : Nat} {x : Int}, u[n]? = some x → (addC u v)[n]? = some (x + (v[n]?).getD 0)
  | [], _, _, _, h => by simp at h
  | y :: u, [], n, x, h => by
    show (y :: u)[n]? = _
    rw [h]
    simp
  | y :: u, z :: v, 0, x, h => by
    cases h
    rfl
  | y :: u, z :: v, n + 1, x, h => by
    show (addC u v)[n]? = some (x + (v[n]?).getD 0)
    exact addC_get h
theorem take_snoc {α : Type} {xs : List α} {n : Nat} {x : α} (h : xs[n]? = some x) : xs.take (n + 1) = xs.take n ++ [x] := by rw [List.take_add_one, h] <;> rfl
def linT : (Nat → Int) → List Int → List Int
  | _, [] => []
  | g, c :: cs => c * g 0 :: linT (fun k => g (k + 1)) cs
theorem linT_sum : ∀ (g : Nat → Int) (cs : List Int), (linT g cs).sum = lin g cs
  | _, [] => rfl
  | g, c :: cs => by
    show (c * g 0 :: linT _ cs).sum = c * g 0 + lin _ cs
    rw [List.sum_cons, linT_sum]
theorem linT_len : ∀ (g : Nat → Int) (cs : List Int), (linT g cs).length = cs.length
  | _, [] => rfl
  | g, c :: cs => by
    show (linT _ cs).length + 1 = cs.length + 1
    rw [linT_len]
theorem linT_get : ∀ {g : Nat → Int} {cs : List Int} {n : Nat} {c : Int}, cs[n]? = some c → (linT g cs)[n]? = some (c * g n)
  | _, [], _, _, h => by simp at h
  | g, d :: cs, 0, c, h => by
    cases h
    rfl
  | g, d :: cs, n + 1, c, h => by
    show (linT (fun k => g (k + 1)) cs)[n]? = _
    exact linT_get (g := fun k => g (k + 1)) h
theorem fac_pos : ∀ n, 1 ≤ fac n
  | 0 => Nat.le_refl _
  | n + 1 => by
    have := fac_pos n
    show 1 ≤ (n + 1) * fac n
    exact Nat.mul_pos (Nat.succ_pos _) this
theorem fac_mono {m n : Nat} (h : m ≤ n) : fac m ≤ fac n := by
  induction h with
  | refl => exact Nat.le_refl _
  | step _ ih =>
    rename_i k _
    have : fac k ≤ (k + 1) * fac k := Nat.le_mul_of_pos_left _ (Nat.succ_pos _)
    exact Nat.le_trans ih this
theorem fac_le8 {m : Nat} (h : m ≤ 8) : fac m ≤ 40320 := Nat.le_trans (fac_mono h) (by decide)
def facs (n : Nat) : List Int := (List.range n).map fun k => (fac k : Int)
theorem facs_get {n k : Nat} (h : k < n) : (facs n)[k]? = some (fac k : Int) := by
  unfold facs
  rw [List.getElem?_map, List.getElem?_range h] <;> rfl
theorem facs_snoc (n : Nat) : facs (n + 1) = facs n ++ [(fac n : Int)] := by
  unfold facs
  rw [List.range_succ, List.map_append] <;> rfl
theorem facT_eq (n : Nat) : facT n = .lst ((facs (n + 1)).map .int) := by
  unfold facT facs
  rw [List.map_map] <;> rfl
theorem facs_last (n : Nat) : atI ((facs (n + 1)).map T.int) (-1) = some (.int (fac n : Int)) := by
  rw [facs_snoc, List.map_append]
  exact atI_last
end Zc
/-! Cc: sets of entries for which a condition holds, by size. -/
namespace Zc
open PySem L2
def zer (Z : List Int) (σ : Int → Bool) : Int → Bool := fun e => if e ∈ Z then false else σ e
theorem zer_snoc {Z : List Int} {σ : Int → Bool} {e : Int} : zer Z (put σ e false) = zer (Z ++ [e]) σ := by
  funext x
  unfold zer put
  by_cases h : x ∈ Z
  · rw [if_pos h, if_pos (List.mem_append.mpr (.inl h))]
  · rw [if_neg h]
    by_cases q : x = e
    · rw [if_pos q, if_pos (List.mem_append.mpr (.inr (by simp [q])))]
    · rw [if_neg q, if_neg (by simp [h, q])]
theorem zer_mem {Z p : List Int} (h : ∀ e, e ∈ p → e ∉ Z) : zer Z (fun e => decide (e ∈ p)) = fun e => decide (e ∈ p) := by
  funext x
  unfold zer
  by_cases q : x ∈ Z
  · rw [if_pos q]
    exact (decide_eq_false fun z => h x z q).symm
  · rw [if_neg q]
theorem zer_put {Z : List Int} {σ : Int → Bool} {x : Int} {b : Bool} (h : x ∈ Z) : zer Z (put σ x b) = zer Z σ := by
  funext y
  unfold zer put
  by_cases q : y ∈ Z
  · rw [if_pos q, if_pos q]
  · rw [if_neg q, if_neg q, if_neg (fun z : y = x => q (by rw [z]; exact h))]
theorem zer_put' {Z : List Int} {σ : Int → Bool} {x : Int} {b : Bool} (h : x ∉ Z) : zer Z (put σ x b) = put (zer Z σ) x b := by
  funext y
  unfold zer put
  by_cases q : y ∈ Z
  · have ne : y ≠ x := fun z => h (by rw [← z]; exact q)
    rw [if_pos q, if_neg ne]
    exact (if_pos q).symm
  · rw [if_neg q]
    by_cases r : y = x
    · rw [if_pos r, if_pos r]
    · rw [if_neg r, if_neg r]
      exact (if_neg q).symm
/-- what is left to be asked about once Z is missing -/
theorem zer_in {ns ms : List Nd} (g : Good ns) (g' : Good ms) {c b : Nat} (hc : c < ns.length + 2) (hb : b < ms.length + 2) {Z D ds : List Int} (hd : ∀ σ, den ms b σ = den ns c (zer Z σ)) (al : ∀ e, Asks ns c e → e ∈ ds) (hz : ∀ e, e ∈ ds → e ∈ Z ∨ e ∈ D) : AllIn ms D b := fun x hx => by
  refine Classical.byContradiction fun q => asks_not_free g' hb (fun σ v => ?_) hx
  rw [hd, hd]
  by_cases z : x ∈ Z
  · rw [zer_put z]
  · rw [zer_put' z, den_free g c hc fun a => (hz x (al x a)).elim z q]
structure Cnt (D : List Int) (φ : List Int → Bool) (cs : List Int) : Prop where
  len : cs.length ≤ D.length + 1
  val : ∀ X : Int, val X cs = wSum (1 + X) (fun _ => X) D φ
theorem cnt_leaf {ns : List Nd} {D : List Int} (i : Nat) (h : i < 2) : Cnt (D.drop (plc ns D i)) (phi ns i) [(i : Int)] := by
  refine ⟨Nat.succ_le_succ (Nat.zero_le _), fun X => ?_⟩
  rw [wSum_leaf i h]
  show (i : Int) + X * 0 = i
  rw [Int.mul_zero, Int.add_zero]
theorem cnt_node {ns : List Nd} (g : Good ns) {D : List Int} (s : D.Pairwise (· < ·)) {i : Nat} {n : Nd} (hn : node ns i = some n) (al : AllIn ns D i) {cw ct : List Int} (hw : Cnt (D.drop (plc ns D n.w)) (phi ns n.w) cw) (ht : Cnt (D.drop (plc ns D n.t)) (phi ns n.t) ct) :
    plc ns D i + 1 ≤ plc ns D n.w ∧ plc ns D i + 1 ≤ plc ns D n.t ∧ Cnt (D.drop (plc ns D i)) (phi ns i) (addC (wid (plc ns D n.w - plc ns D i - 1) cw) (0 :: wid (plc ns D n.t - plc ns D i - 1) ct)) := by
  obtain ⟨q1, q2, _⟩ := g.kids hn
  have il := (node_lt hn).2.1
  have kw := fun X : Int => hold_kid g s hn al (show n.w < ns.length + 2 by omega) (g.topw hn) (al.w hn) (o := 1 + X) (cf := fun _ => X)
  have kt := fun X : Int => hold_kid g s hn al (show n.t < ns.length + 2 by omega) (g.topt hn) (al.t hn) (o := 1 + X) (cf := fun _ => X)
  have w1 := (kw 0).1
  have t1 := (kt 0).1
  have pi := plc_node (D := D) hn
  have ilt := List.idxOf_lt_length_of_mem (al.here hn)
  refine ⟨w1, t1, ?_, fun X => ?_⟩
  · have := hw.len
    have := ht.len
    have := plc_le (ns := ns) (D := D) (i := n.w)
    have := plc_le (ns := ns) (D := D) (i := n.t)
    rw [addC_len, List.length_cons, wid_len, wid_len, List.length_drop]
    simp only [List.length_drop] at *
    omega
  · rw [val_add, hold_node g s hn al (o := 1 + X) (cf := fun _ => X), ← (kw X).2, ← (kt X).2]
    show _ + (0 + X * Zc.val X _) = _
    rw [val_wid, val_wid, hw.val, ht.val, show 1 + X - X = 1 by omega, Int.one_mul, Int.zero_add]
theorem cnt_top {ns : List Nd} (g : Good ns) {D : List Int} (s : D.Pairwise (· < ·)) {c : Nat} (hc : c < ns.length + 2) (al : AllIn ns D c) {cs : List Int} (h : Cnt (D.drop (plc ns D c)) (phi ns c) cs) : Cnt D (phi ns c) (wid (plc ns D c) cs) := by
  refine ⟨?_, fun X => ?_⟩
  · have := h.len
    have := plc_le (ns := ns) (D := D) (i := c)
    rw [wid_len]
    simp only [List.length_drop] at *
    omega
  · rw [val_wid, h.val, hold_top g s hc al]
theorem Cnt.congr {D : List Int} {φ ψ : List Int → Bool} {cs : List Int} (h : Cnt D φ cs) (e : ∀ p, p.Sublist D → φ p = ψ p) : Cnt D ψ cs :=
  ⟨h.len, fun X => (h.val X).trans (wSum_congr fun p hp => e p (subC_sub hp))⟩
/-- the counts so far -/
structure CTab (ns : List Nd) (D : List Int) (l : List Nat) (n : Nat) (kvs : List (Key × T)) : Prop where
  get : ∀ i, i < 2 ∨ i ∈ l.take n → ∃ cs : List Int, valT kvs (.inl (i : Int)) = some (.tup [.int (plc ns D i : Nat), .lst (cs.map .int)]) ∧ Cnt (D.drop (plc ns D i)) (phi ns i) cs
  len : kvs.length ≤ n + 2
theorem CTab.start {ns : List Nd} {D : List Int} {l : List Nat} {a b : T} (ha : a = .tup [.int (D.length : Nat), .lst ([0].map .int)]) (hb : b = .tup [.int (D.length : Nat), .lst ([1].map .int)]) : CTab ns D l 0 (mergeT [] [(.inl 0, a), (.inl 1, b)]) := by
  have e0 : mergeT [] [((.inl 0 : Key), a), (.inl 1, b)] = [(.inl 0, a), (.inl 1, b)] := rfl
  rw [e0]
  refine ⟨fun i hi => ?_, Nat.le_refl _⟩
  rcases hi with hi | hi
  · refine ⟨[(i : Int)], ?_, cnt_leaf i hi⟩
    rw [plc_leaf hi]
    rcases (show i = 0 ∨ i = 1 by omega) with rfl | rfl
    · subst ha
      rfl
    · subst hb
      rfl
  · rw [List.take_zero] at hi
    cases hi
theorem CTab.step {ns : List Nd} {D : List Int} {l : List Nat} {n i : Nat} {kvs : List (Key × T)} (t : CTab ns D l n kvs) (h : l[n]? = some i) {cs : List Int} {v : T} (hv : v = .tup [.int (plc ns D i : Nat), .lst (cs.map .int)]) (hc : Cnt (D.drop (plc ns D i)) (phi ns i) cs) : CTab ns D l (n + 1) (putT kvs (.inl (i : Int)) v) := by
  subst hv
  refine ⟨fun j hj => ?_, Nat.le_trans (putT_len _ _ _) (Nat.succ_le_succ t.len)⟩
  rw [valT_put]
  by_cases q : j = i
  · subst q
    exact ⟨cs, by rw [if_pos rfl], hc⟩
  · rw [if_neg (by intro z; injection z with z; omega)]
    refine t.get j (hj.imp id fun z => ?_)
    rw [take_snoc h] at z
    rcases List.mem_append.mp z with z | z
    · exact z
    · exact absurd (List.mem_singleton.mp z) q
def p_sizes {R : Rs} {C : Addr} {E : List Int} (hs : HasStore R C E) : DSp R := fun ts g post => ∃ (s : SG) (c : Nat) (D : List Int), ts = [.raw (.ref s.a), .int (c : Int), .lst (D.map .int)] ∧ hs.sg g = some s ∧
  (s.Ok E ∧ c < s.ns.length + 2 ∧ E.length ≤ 8 ∧ s.ns.length + 3000 < 100000 ∧ D.Pairwise (· < ·) ∧ D.length ≤ 8) ∧
  ∀ (cs : List Int) g' s', hs.sg g' = some s' → s'.Ok E → Ext s s' 2040 0 → Cnt D (phi s.ns c) cs → post (.lst (cs.map .int)) g'
end Zc
/-! Cd: shares. -/
namespace Zc
open PySem L2
theorem filter_ints {φ : Int → Bool} {xs : List Int} : (((xs.map T.int).filter fun t => φ (unI t)).map id) = (xs.filter φ).map T.int := by
  rw [List.map_id, List.filter_map]
  rfl
def wgt (φ : List Int → Bool) (D : List Int) (g : Nat → Int) : Int := (((subC D).filter φ).map fun p => g p.length).sum
def gOf (n : Nat) : Nat → Int := fun k => (fac k : Int) * (fac (n - k) : Int)
/-- what the entry changes, weighed -/
def shDiff (F : (Int → Bool) → Bool) (D : List Int) (e : Int) : Int :=
  wgt (fun p => F (put (fun x => decide (x ∈ p)) e true)) D (gOf D.length) - wgt (fun p => F (put (fun x => decide (x ∈ p)) e false)) D (gOf D.length)
theorem wgt_bound {φ : List Int → Bool} {D : List Int} {n : Nat} (hD : D.length ≤ 8) (hn : n ≤ 8) : 0 ≤ wgt φ D (gOf n) ∧ wgt φ D (gOf n) ≤ 256 * (40320 * 40320) := by
  unfold wgt
  have h := sum_le (f := fun p : List Int => gOf n p.length) (M := 40320 * 40320) (by decide) (xs := (subC D).filter φ) fun p hp => by
    have pl : p.length ≤ 8 := Nat.le_trans (subC_sub (List.mem_filter.mp hp).1).length_le hD
    have a := fac_le8 pl
    have b := fac_le8 (show n - p.length ≤ 8 by omega)
    unfold gOf
    refine ⟨Int.mul_nonneg (by omega) (by omega), Int.mul_le_mul (by omega) (by omega) (by omega) (by decide)⟩
  refine ⟨h.1, Int.le_trans h.2 (Int.mul_le_mul_of_nonneg_right ?_ (by decide))⟩
  have h1 := List.length_filter_le φ (subC D)
  rw [subC_len] at h1
  have h2 := Nat.pow_le_pow_right (show 0 < 2 by decide) hD
  omega
theorem shDiff_bound {F : (Int → Bool) → Bool} {D : List Int} {e : Int} (hD : D.length ≤ 8) : (shDiff F D e).natAbs < 2 ^ 100 := by
  unfold shDiff
  have h1 := wgt_bound (φ := fun p => F (put (fun x => decide (x ∈ p)) e true)) (n := D.length) hD hD
  have h2 := wgt_bound (φ := fun p => F (put (fun x => decide (x ∈ p)) e false)) (n := D.length) hD hD
  have : 256 * (40320 * 40320) < 2 ^ 100 := by decide
  omega
theorem cnt_wgt {D : List Int} {φ : List Int → Bool} {cs : List Int} (nd : D.Nodup) (h : Cnt D φ cs) (g : Nat → Int) : lin g cs = wgt φ D g := counts_mean nd h.val g
def p_shares {R : Rs} {C : Addr} {E : List Int} (hs : HasStore R C E) : DSp R := fun ts g post => ∃ (s : SG) (c : Nat) (ps : List Int), ts = [.raw (.ref s.a), .int (c : Int), .lst (ps.map .int)] ∧ hs.sg g = some s ∧
  (s.Ok E ∧ c < s.ns.length + 2 ∧ E.length ≤ 8 ∧ s.ns.length + 40000 < 100000) ∧
  ∀ (A : List Int) g' s', A.Pairwise (· < ·) → (∀ e, e ∈ A ↔ Asks s.ns c e ∧ e ∈ ps) → hs.sg g' = some s' → s'.Ok E → Ext s s' 36720 0 →
    post (.lst (A.map fun e => trip e (shDiff (den s.ns c) (A.filter fun x => !decide (x = e)) e) (fac A.length : Int))) g'
theorem others_len {A : List Int} (nd : A.Nodup) {e : Int} (h : e ∈ A) : (A.filter fun x => !decide (x = e)).length + 1 = A.length := by
  induction A with
  | nil => cases h
  | cons x A ih =>
    obtain ⟨n1, n2⟩ := List.nodup_cons.mp nd
    by_cases q : x = e
    · subst q
      have : (x :: A).filter (fun y => !decide (y = x)) = A := by
        rw [List.filter_cons, if_neg (by simp)]
        refine List.filter_eq_self.mpr fun y hy => ?_
        rw [decide_eq_false (fun z : y = x => n1 (by rw [← z]; exact hy))] <;> rfl
      rw [this] <;> rfl
    · have he : e ∈ A := by
        rcases List.mem_cons.mp h with z | z
        · exact absurd z.symm q
        · exact z
      rw [List.filter_cons, if_pos (by simp [q]), List.length_cons, List.length_cons, ih n2 he]
end Zc
/-! Ce: orders. -/
namespace Zc
open PySem L2
def PInv (G : List Int → Int) : Prop := ∀ p q : List Int, p.Perm q → G p = G q
/-- over all prefixes -/
def pre (G : List Int → Int) : List Int → Int
  | [] => G []
  | x :: o => G [] + pre (fun p => G (x :: p)) o
def ins (m : Int) : List Int → List (List Int)
  | [] => [[m]]
  | x :: o => (m :: x :: o) :: (ins m o).map (x :: ·)
def insS (F : List Int → Int) (m : Int) (o : List Int) : Int := ((ins m o).map F).sum
theorem insS_cons {F : List Int → Int} {m x : Int} {o : List Int} : insS F m (x :: o) = F (m :: x :: o) + insS (fun p => F (x :: p)) m o := by
  unfold insS
  show (((m :: x :: o) :: (ins m o).map (x :: ·)).map F).sum = _
  rw [List.map_cons, List.sum_cons, List.map_map] <;> rfl
theorem insS_nil {F : List Int → Int} {m : Int} : insS F m [] = F [m] := by
  unfold insS ins
  rw [List.map_cons, List.map_nil, List.sum_cons, List.sum_nil, Int.add_zero]
theorem insS_addc {c : Int} {F : List Int → Int} {m : Int} : ∀ {o : List Int}, insS (fun p => c + F p) m o = (o.length + 1 : Int) * c + insS F m o
  | [] => by
    rw [insS_nil, insS_nil]
    show c + F [m] = ((0 : Nat) + 1 : Int) * c + F [m]
    simp
  | x :: o => by
    rw [insS_cons, insS_cons, insS_addc (F := fun p => F (x :: p)), List.length_cons, Int.natCast_succ, Int.add_mul ((o.length : Int) + 1), Int.one_mul]
    omega
theorem insS_const {c : Int} {m : Int} {o : List Int} : insS (fun _ => c) m o = (o.length + 1 : Int) * c := by
  have := insS_addc (c := c) (F := fun _ => 0) (m := m) (o := o)
  rw [show (fun p : List Int => c + (fun _ => (0 : Int)) p) = fun _ => c from funext fun _ => Int.add_zero c] at this
  rw [this]
  have z : ∀ o : List Int, insS (fun _ => (0 : Int)) m o = 0 := fun o => by
    induction o with
    | nil => exact insS_nil
    | cons x o ih => rw [insS_cons, ih] <;> rfl
  rw [z]
  omega
theorem pre_add {F G : List Int → Int} : ∀ {o : List Int}, pre (fun p => F p + G p) o = pre F o + pre G o
  | [] => rfl
  | x :: o => by
    show F [] + G [] + pre (fun p => F (x :: p) + G (x :: p)) o = (F [] + pre _ o) + (G [] + pre _ o)
    rw [pre_add]
    omega
theorem pre_congr {F G : List Int → Int} (h : ∀ p, F p = G p) (o : List Int) : pre F o = pre G o := by rw [show F = G from funext h]
theorem PInv.cons {G : List Int → Int} (h : PInv G) (x : Int) : PInv fun p => G (x :: p) := fun p q z => h _ _ (z.cons x)
def hB (G : List Int → Int) (m : Int) (n : Nat) (q : List Int) : Int := ((q.length : Int) + 1) * G (q ++ [m]) + ((n : Int) + 1 - q.length) * G q
theorem hB_inv {G : List Int → Int} (h : PInv G) (m : Int) (n : Nat) : PInv (hB G m n) := fun p q z => by
  unfold hB
  rw [z.length_eq, h p q z, h (p ++ [m]) (q ++ [m]) (z.append_right _)]
theorem ins_pre {m : Int} : ∀ {o : List Int} {G : List Int → Int}, PInv G → insS (pre G) m o = pre (hB G m o.length) o
  | [], G, _ => by
    rw [insS_nil]
    show G [] + G [m] = ((0 : Nat) + 1 : Int) * G [m] + ((0 : Nat) + 1 - (0 : Nat) : Int) * G []
    simp
    omega
  | x :: o, G, h => by
    rw [insS_cons]
    have e1 : (fun p => pre G (x :: p)) = fun p => G [] + pre (fun q => G (x :: q)) p := rfl
    rw [e1, insS_addc, ins_pre (h.cons x)]
    show G [] + (G [m] + pre (fun p => G (m :: x :: p)) o) + (((o.length : Int) + 1) * G [] + pre (hB (fun q => G (x :: q)) m o.length) o) = hB G m (o.length + 1) [] + pre (fun q => hB G m (o.length + 1) (x :: q)) o
    have e2 : ∀ q, hB G m (o.length + 1) (x :: q) = G (m :: x :: q) + hB (fun q => G (x :: q)) m o.length q := fun q => by
      unfold hB
      have e3 : G (m :: x :: q) = G (x :: q ++ [m]) := h _ _ (List.perm_append_comm (l₁ := [m]) (l₂ := x :: q))
      rw [e3, List.length_cons, Int.natCast_succ, Int.natCast_succ]
      show _ = G (x :: q ++ [m]) + (((q.length : Int) + 1) * G (x :: (q ++ [m])) + ((o.length : Int) + 1 - q.length) * G (x :: q))
      rw [show x :: (q ++ [m]) = x :: q ++ [m] from rfl, Int.add_mul ((q.length : Int) + 1), Int.one_mul, show (o.length : Int) + 1 + 1 - ((q.length : Int) + 1) = (o.length : Int) + 1 - q.length by omega]
      omega
    rw [pre_congr e2, pre_add]
    have e4 : hB G m (o.length + 1) [] = G [m] + ((o.length : Int) + 1) * G [] + G [] := by
      unfold hB
      rw [List.nil_append, Int.natCast_succ]
      show ((0 : Nat) + 1 : Int) * G [m] + ((o.length : Int) + 1 + 1 - (0 : Nat)) * G [] = _
      rw [show ((0 : Nat) + 1 : Int) = 1 from rfl, Int.one_mul, show (o.length : Int) + 1 + 1 - ((0 : Nat) : Int) = ((o.length : Int) + 1) + 1 by omega, Int.add_mul ((o.length : Int) + 1), Int.one_mul]
      omega
    rw [e4]
    omega
def bef (G : List Int → Int) (e : Int) : List Int → Int
  | [] => G []
  | x :: o => if x = e then G [] else bef (fun p => G (x :: p)) e o
theorem bef_take {e : Int} : ∀ {o : List Int} {G : List Int → Int}, bef G e o = G (o.take (o.idxOf e))
  | [], G => by
    show G [] = G ([].take _)
    rw [List.take_nil]
  | x :: o, G => by
    show (if x = e then G [] else bef _ e o) = _
    by_cases h : x = e
    · subst h
      rw [if_pos rfl, List.idxOf_cons_self, List.take_zero]
    · have : (x :: o).idxOf e = o.idxOf e + 1 := by
        rw [List.idxOf_cons, show (x == e) = false from beq_eq_false_iff_ne.mpr h] <;> rfl
      rw [if_neg h, bef_take, this] <;> rfl
theorem bef_add {F G : List Int → Int} {e : Int} : ∀ {o : List Int}, bef (fun p => F p + G p) e o = bef F e o + bef G e o := fun {o} => by rw [bef_take, bef_take, bef_take]
def hA (G : List Int → Int) (m : Int) (n : Nat) (q : List Int) : Int := ((q.length : Int) + 1) * G (q ++ [m]) + ((n : Int) - q.length) * G q
theorem hA_inv {G : List Int → Int} (h : PInv G) (m : Int) (n : Nat) : PInv (hA G m n) := fun p q z => by
  unfold hA
  rw [z.length_eq, h p q z, h (p ++ [m]) (q ++ [m]) (z.append_right _)]
theorem ins_bef {m e : Int} (hm : m ≠ e) : ∀ {o : List Int} {G : List Int → Int}, PInv G → e ∈ o → insS (bef G e) m o = bef (hA G m o.length) e o
  | [], G, _, he => nomatch he
  | x :: o, G, h, he => by
    rw [insS_cons]
    by_cases hx : x = e
    · subst hx
      have e1 : (fun p => bef G x (x :: p)) = fun _ => G [] := funext fun p => if_pos rfl
      rw [e1, insS_const]
      show (if m = x then G [] else if x = x then G [m] else _) + _ = if x = x then hA G m (o.length + 1) [] else _
      rw [if_neg hm, if_pos rfl, if_pos rfl]
      unfold hA
      rw [List.nil_append, Int.natCast_succ]
      show _ = ((0 : Nat) + 1 : Int) * G [m] + ((o.length : Int) + 1 - (0 : Nat)) * G []
      rw [show ((0 : Nat) + 1 : Int) = 1 from rfl, Int.one_mul, show (o.length : Int) + 1 - ((0 : Nat) : Int) = (o.length : Int) + 1 by omega]
    · have he' : e ∈ o := by
        rcases List.mem_cons.mp he with z | z
        · exact absurd z.symm hx
        · exact z
      have e1 : (fun p => bef G e (x :: p)) = fun p => bef (fun q => G (x :: q)) e p := funext fun p => if_neg hx
      rw [e1, ins_bef hm (h.cons x) he']
      show (if m = e then G [] else if x = e then G [m] else bef (fun p => G (m :: x :: p)) e o) + _ = if x = e then _ else bef (fun q => hA G m (o.length + 1) (x :: q)) e o
      rw [if_neg hm, if_neg hx, if_neg hx, ← bef_add]
      congr 1
      funext q
      unfold hA
      have e3 : G (m :: x :: q) = G (x :: q ++ [m]) := h _ _ (List.perm_append_comm (l₁ := [m]) (l₂ := x :: q))
      rw [e3, List.length_cons, Int.natCast_succ, Int.natCast_succ]
      show G (x :: q ++ [m]) + (((q.length : Int) + 1) * G (x :: q ++ [m]) + ((o.length : Int) - q.length) * G (x :: q)) = _
      rw [Int.add_mul ((q.length : Int) + 1), Int.one_mul, show (o.length : Int) + 1 - ((q.length : Int) + 1) = (o.length : Int) - q.length by omega]
      omega
theorem ins_new {m : Int} : ∀ {o : List Int} {G : List Int → Int}, m ∉ o → insS (bef G m) m o = pre G o
  | [], G, _ => by
    rw [insS_nil]
    exact if_pos rfl
  | x :: o, G, h => by
    have hx : x ≠ m := fun z => h (by rw [z]; exact List.mem_cons_self)
    have e1 : (fun p => bef G m (x :: p)) = fun p => bef (fun q => G (x :: q)) m p := funext fun p => if_neg hx
    rw [insS_cons, e1, ins_new fun z => h (List.mem_cons_of_mem _ z)]
    show (if m = m then G [] else _) + _ = G [] + _
    rw [if_pos rfl]
def ords (M : List Int) : List (List Int) := M.foldl (fun f m => f.flatMap (ins m)) [[]]
theorem ords_snoc (M : List Int) (m : Int) : ords (M ++ [m]) = (ords M).flatMap (ins m) := by
  unfold ords
  rw [List.foldl_append] <;> rfl
theorem sum_flat {α : Type} {f : α → List (List Int)} {F : List Int → Int} : ∀ {xs : List α}, ((xs.flatMap f).map F).sum = (xs.map fun x => ((f x).map F).sum).sum
  | [] => rfl
  | x :: xs => by rw [List.flatMap_cons, List.map_append, List.sum_append, List.map_cons, List.sum_cons, sum_flat]
theorem ins_perm {m : Int} : ∀ {o p : List Int}, p ∈ ins m o → p.Perm (o ++ [m])
  | [], p, h => by
    cases List.mem_singleton.mp h
    exact .refl _
  | x :: o, p, h => by
    rcases List.mem_cons.mp h with rfl | h
    · exact List.perm_append_comm (l₁ := [m]) (l₂ := x :: o)
    · obtain ⟨q, hq, rfl⟩ := List.mem_map.mp h
      exact (ins_perm hq).cons x
theorem ords_perm : ∀ (R : List Int) (o : List Int), o ∈ ords R.reverse → o.Perm R.reverse
  | [], o, h => by
    cases List.mem_singleton.mp h
    exact .refl _
  | m :: R, o, h => by
    rw [List.reverse_cons, ords_snoc] at h
    obtain ⟨q, hq, ho⟩ := List.mem_flatMap.mp h
    rw [List.reverse_cons]
    exact (ins_perm ho).trans ((ords_perm R q hq).append_right _)
theorem ords_perm' {M o : List Int} (h : o ∈ ords M) : o.Perm M := by
  have := ords_perm M.reverse o (by rw [List.reverse_reverse]; exact h)
  rwa [List.reverse_reverse] at this
def sumS (G : List Int → Int) (D : List Int) : Int := ((subC D).map G).sum
theorem sum_map_add {α : Type} {F G : α → Int} : ∀ {xs : List α}, (xs.map fun x => F x + G x).sum = (xs.map F).sum + (xs.map G).sum
  | [] => rfl
  | x :: xs => by
    rw [List.map_cons, List.sum_cons, List.map_cons, List.sum_cons, List.map_cons, List.sum_cons, sum_map_add]
    omega
theorem sumS_snoc {G : List Int → Int} {D : List Int} {m : Int} : sumS G (D ++ [m]) = sumS (fun p => G p + G (p ++ [m])) D := by
  unfold sumS
  rw [← sum_perm (subC_snoc m D), List.map_append, List.sum_append, List.map_map, sum_map_add] <;> rfl
theorem sumS_congr {F G : List Int → Int} {D : List Int} (h : ∀ p : List Int, p.Sublist D → F p = G p) : sumS F D = sumS G D := by
  unfold sumS
  rw [List.map_congr_left fun p hp => h p (subC_sub hp)]
theorem sum_congr {α : Type} {F G : α → Int} {xs : List α} (h : ∀ x, x ∈ xs → F x = G x) : (xs.map F).sum = (xs.map G).sum := by rw [List.map_congr_left h]
theorem fac_succ (n : Nat) : (fac (n + 1) : Int) = ((n : Int) + 1) * (fac n : Int) := by
  show (((n + 1) * fac n : Nat) : Int) = _
  rw [Int.natCast_mul, Int.natCast_succ]
/-- over all prefixes of all orders -/
theorem ords_pre : ∀ (R : List Int) {G : List Int → Int}, PInv G → ((ords R.reverse).map (pre G)).sum = sumS (fun p => G p * gOf R.length p.length) R.reverse
  | [], G, _ => by
    show pre G [] + 0 = G [] * (((1 : Nat) : Int) * ((1 : Nat) : Int)) + 0
    show G [] + 0 = _
    simp
  | m :: R, G, h => by
    rw [List.reverse_cons, ords_snoc, sum_flat, sumS_snoc]
    have e1 : ((ords R.reverse).map fun o => ((ins m o).map (pre G)).sum).sum = ((ords R.reverse).map (pre (hB G m R.length))).sum := sum_congr fun o ho => by
      have hl := (ords_perm R o ho).length_eq
      rw [List.length_reverse] at hl
      rw [← hl]
      exact ins_pre h
    rw [e1, ords_pre R (hB_inv h m R.length)]
    refine sumS_congr fun p hp => ?_
    have hl := hp.length_le
    rw [List.length_reverse] at hl
    unfold hB gOf
    rw [List.length_append, List.length_singleton, List.length_cons, show R.length + 1 - p.length = (R.length - p.length) + 1 by omega, show R.length + 1 - (p.length + 1) = R.length - p.length by omega, fac_succ, fac_succ, show ((R.length : Int) + 1 - p.length) = ((R.length - p.length : Nat) : Int) + 1 by omega]
    generalize (fac p.length : Int) = a
    generalize (fac (R.length - p.length) : Int) = b
    generalize ((R.length - p.length : Nat) : Int) + 1 = c
    generalize (p.length : Int) + 1 = d
    generalize G (p ++ [m]) = x
    generalize G p = y
    rw [Int.add_mul, Int.mul_comm d x, Int.mul_comm c y, Int.mul_assoc x, Int.mul_assoc y, Int.add_comm, Int.mul_assoc d a b, Int.mul_left_comm c a b]
/-- over what comes before e in all orders -/
theorem ords_bef {e : Int} : ∀ (R : List Int) {G : List Int → Int}, PInv G → R.Nodup → e ∈ R → ((ords R.reverse).map (bef G e)).sum = sumS (fun p => G p * gOf (R.length - 1) p.length) (R.reverse.filter fun x => !decide (x = e))
  | [], _, _, _, h => nomatch h
  | m :: R, G, h, nd, he => by
    obtain ⟨n1, n2⟩ := List.nodup_cons.mp nd
    rw [List.reverse_cons, ords_snoc, sum_flat, List.filter_append]
    by_cases hm : m = e
    · subst hm
      have e1 : ((ords R.reverse).map fun o => ((ins m o).map (bef G m)).sum).sum = ((ords R.reverse).map (pre G)).sum := sum_congr fun o ho => ins_new fun z => n1 (List.mem_reverse.mp ((ords_perm R o ho).mem_iff.mp z))
      have e2 : [m].filter (fun x => !decide (x = m)) = [] := by simp
      have e3 : R.reverse.filter (fun x => !decide (x = m)) = R.reverse := List.filter_eq_self.mpr fun x hx => by
        rw [decide_eq_false (fun z : x = m => n1 (by rw [← z]; exact List.mem_reverse.mp hx))] <;> rfl
      rw [e1, ords_pre R h, e2, e3, List.append_nil] <;> rfl
    · have he' : e ∈ R := by
        rcases List.mem_cons.mp he with z | z
        · exact absurd z.symm hm
        · exact z
      have rl : 1 ≤ R.length := List.length_pos_of_mem he'
      have e1 : ((ords R.reverse).map fun o => ((ins m o).map (bef G e)).sum).sum = ((ords R.reverse).map (bef (hA G m R.length) e)).sum := sum_congr fun o ho => by
        have hp := ords_perm R o ho
        have hl := hp.length_eq
        rw [List.length_reverse] at hl
        rw [← hl]
        exact ins_bef hm h (hp.mem_iff.mpr (List.mem_reverse.mpr he'))
      have e2 : [m].filter (fun x => !decide (x = e)) = [m] := by simp [hm]
      rw [e1, ords_bef R (hA_inv h m R.length) n2 he', e2, sumS_snoc]
      refine sumS_congr fun p hp => ?_
      have ol := others_len (A := R.reverse) ((List.reverse_perm R).nodup_iff.mpr n2) (List.mem_reverse.mpr he')
      rw [List.length_reverse] at ol
      have hl := hp.length_le
      unfold hA gOf
      rw [List.length_append, List.length_singleton, List.length_cons, Nat.add_sub_cancel, show R.length - p.length = (R.length - 1 - p.length) + 1 by omega, show R.length - (p.length + 1) = R.length - 1 - p.length by omega, fac_succ, fac_succ, show ((R.length : Int) - p.length) = ((R.length - 1 - p.length : Nat) : Int) + 1 by omega]
      generalize (fac p.length : Int) = a
      generalize (fac (R.length - 1 - p.length) : Int) = b
      generalize ((R.length - 1 - p.length : Nat) : Int) + 1 = c
      generalize (p.length : Int) + 1 = d
      generalize G (p ++ [m]) = x
      generalize G p = y
      rw [Int.add_mul, Int.mul_comm d x, Int.mul_comm c y, Int.mul_assoc x, Int.mul_assoc y, Int.add_comm, Int.mul_assoc d a b, Int.mul_left_comm c a b]
end Zc
/-! Cf: the place of an item; equal lists; what the laws of shares compute. -/
namespace Zc
open PySem L2
section
variable {K : PySem.W.Frag} {R : Rs} {B : Bs R} {g : R.G} {es : List Ent} {te ty : TE} {post : T → R.G → List Ent → Prop}
theorem eqV_int {a b : Int} : eqV (V.int a) (V.int b) = decide (a = b) := by
  by_cases h : a = b <;> simp [eqV, h]
theorem we_index (h : wE K R B te g es fun x g1 es1 => ∃ ns : List Int, x = .lst (ns.map .int) ∧ wE K R B ty g1 es1 fun y g2 es2 => ∃ e, y = .int e ∧ e ∈ ns ∧ post (.int (ns.idxOf e : Nat)) g2 es2) :
    wE K R B (tBM K "list" (rIndex K) te (tCons ty tNil)) g es post := fun F σ H ok Q q => by
  refine h F σ H ok _ fun vx x g1 es1 F1 H1 l1 ok1 rx h1 => ?_
  obtain ⟨ns, rfl, h1⟩ := h1
  cases rx with
  | lst hx rs =>
    cases rs.ints
    refine ⟨.inl ⟨rfl, _, Evl.ex_l ok1.i.ex hx⟩, ?_⟩
    refine h1 F1 σ H1 ok1 _ fun vy y g2 es2 F2 H2 l2 ok2 ry h2 => ?_
    obtain ⟨e, rfl, he, hp⟩ := h2
    cases ry
    have hl := List.idxOf_lt_length_of_mem he
    have hg : ns[ns.idxOf e]? = some e := by
      rw [List.getElem?_eq_getElem hl, List.getElem_idxOf hl]
    refine ⟨_, ns.map V.int, .int e, ns.idxOf e, .int e, rfl, rfl, Evl.ex_l ok2.i.ex (Evl.ex_l l2.f hx), rfl, flat_ints ns, by rw [List.getElem?_map, hg] <;> rfl, by rw [eqV_int]; exact decide_eq_true rfl, fun m z' hm hz => ?_, q _ _ g2 es2 F2 H2 (l1.trans l2) ok2 (.int _) hp⟩
    rw [List.getElem?_map] at hz
    cases hn : ns[m]? with
    | none =>
      rw [hn] at hz
      cases hz
    | some a =>
      rw [hn] at hz
      cases hz
      rw [eqV_int]
      refine decide_eq_false fun z => ?_
      subst z
      have hml := (List.getElem?_eq_some_iff.mp hn)
      obtain ⟨q1, q2⟩ := hml
      have := List.not_of_lt_findIdx (p := fun x => x == a) (xs := ns) (i := m) hm
      simp [q2] at this
end
theorem dp_ints (ns : List Int) : (T.lst (ns.map .int)).ok = true ∧ (T.lst (ns.map .int)).dep ≤ 1 := by
  have h1 : ∀ ns : List Int, oks (ns.map .int) = true := fun ns => by
    induction ns with
    | nil => rfl
    | cons n ns ih =>
      show ((T.int n).ok && oks (ns.map .int)) = true
      rw [ih] <;> rfl
  have h2 : ∀ ns : List Int, deps (ns.map .int) = 0 := fun ns => by
    induction ns with
    | nil => rfl
    | cons n ns ih =>
      show max (T.int n).dep (deps (ns.map .int)) = 0
      rw [ih] <;> rfl
  refine ⟨h1 ns, ?_⟩
  show deps (ns.map .int) + 1 ≤ 1
  rw [h2]
  exact Nat.le_refl _
theorem eqv_ints (ns : List Int) : PyData.eqv (T.lst (ns.map .int)).py (T.lst (ns.map .int)).py = true := by
  show PyData.eqv (.list (pys (ns.map .int))) (.list (pys (ns.map .int))) = true
  induction ns with
  | nil => rfl
  | cons n ns ih => simp_all [pys, T.py, PyData.eqv, PyData.eqvAll]
end Zc
/-! Cg: what the laws of shares compute: dependence by all sets, all orders. -/
namespace Zc
open PySem L2
theorem cutG_take {α : Type} {xs : List α} {k : Nat} (h : k ≤ xs.length) : cutG xs none (some (k : Int)) = xs.take k := by
  unfold cutG
  rw [HT.sIx_none, HT.sIx_nat, List.drop_zero, Nat.sub_zero, Nat.min_eq_left h]
theorem cutG_drop {α : Type} {xs : List α} {k : Nat} (h : k ≤ xs.length) : cutG xs (some (k : Int)) none = xs.drop k := by
  unfold cutG
  rw [HT.sIx_none, HT.sIx_nat, Nat.min_eq_left h]
  exact List.take_of_length_le (by rw [List.length_drop]; omega)
theorem ins_eq (m : Int) : ∀ o : List Int, (List.range (o.length + 1)).map (fun k => o.take k ++ [m] ++ o.drop k) = ins m o
  | [] => rfl
  | x :: o => by
    rw [List.length_cons, List.range_succ_eq_map, List.map_cons, List.map_map]
    show (_ :: _) = (m :: x :: o) :: (ins m o).map (x :: ·)
    rw [← ins_eq m o, List.map_map] <;> rfl
theorem ins_len {m : Int} {o : List Int} : (ins m o).length = o.length + 1 := by
  rw [← ins_eq, List.length_map, List.length_range]
theorem ords_len (R : List Int) : (ords R.reverse).length = fac R.length := by
  induction R with
  | nil => rfl
  | cons m R ih =>
    rw [List.reverse_cons, ords_snoc, List.length_flatMap]
    have : ((ords R.reverse).map fun o => (ins m o).length) = (ords R.reverse).map fun _ => R.length + 1 := List.map_congr_left fun o ho => by
      have := (ords_perm R o ho).length_eq
      rw [List.length_reverse] at this
      rw [ins_len, this]
    rw [this, List.map_const', List.sum_replicate_nat, ih, Nat.mul_comm] <;> rfl
theorem ords_len' (M : List Int) : (ords M).length = fac M.length := by
  have := ords_len M.reverse
  rwa [List.reverse_reverse, List.length_reverse] at this
/-- dependence, by all sets -/
def ldep (x : Bx) (E : List Int) (e : Int) : Bool := (subs (E.filter fun y => !decide (y = e))).any fun p => (x.sem fun y => decide (y ∈ p)) != (x.sem fun y => decide (y ∈ p ++ [e]))
theorem ldep_iff {x : Bx} {E : List Int} {d : Nat} (hx : x.wf E d) {e : Int} (he : e ∈ E) : ldep x E e = true ↔ ¬ Free (fun σ => x.sem σ) e := by
  have key : ∀ (p : List Int), e ∉ p → ((fun y => decide (y ∈ p)) = put (fun y => decide (y ∈ p)) e false) ∧ ((fun y => decide (y ∈ p ++ [e])) = put (fun y => decide (y ∈ p)) e true) := fun p hp => by
    refine ⟨funext fun y => ?_, funext fun y => ?_⟩
    · unfold put
      by_cases q : y = e
      · rw [if_pos q, q]
        exact decide_eq_false hp
      · rw [if_neg q]
    · unfold put
      by_cases q : y = e
      · rw [if_pos q]
        exact decide_eq_true (by simp [q])
      · rw [if_neg q]
        simp [q]
  unfold ldep
  rw [List.any_eq_true]
  constructor
  · rintro ⟨p, hp, h⟩ f
    have hep : e ∉ p := fun q => by
      have := (List.mem_filter.mp ((subs_mem.mp hp).subset q)).2
      simp at this
    obtain ⟨k1, k2⟩ := key p hep
    have h2 := f (fun y => decide (y ∈ p)) true
    rw [k2] at h
    simp at h
    exact h h2.symm
  · intro nf
    refine Classical.byContradiction fun no => nf fun σ b => ?_
    have all : ∀ p, p ∈ subs (E.filter fun y => !decide (y = e)) → (x.sem fun y => decide (y ∈ p)) = (x.sem fun y => decide (y ∈ p ++ [e])) := fun p hp => Classical.byContradiction fun q => no ⟨p, hp, by simpa using q⟩
    have hp : (E.filter fun y => !decide (y = e)).filter σ ∈ subs (E.filter fun y => !decide (y = e)) := subs_mem.mpr List.filter_sublist
    have hep : e ∉ (E.filter fun y => !decide (y = e)).filter σ := fun q => by
      have := (List.mem_filter.mp (List.mem_filter.mp q).1).2
      simp at this
    obtain ⟨k1, k2⟩ := key _ hep
    have h := all _ hp
    rw [k1, k2] at h
    have on : ∀ c : Bool, x.sem (put (fun y => decide (y ∈ (E.filter fun y => !decide (y = e)).filter σ)) e c) = x.sem (put σ e c) := fun c => Bx.sem_on (fun y hy => by
      unfold put
      by_cases q : y = e
      · rw [if_pos q, if_pos q]
      · rw [if_neg q, if_neg q]
        simp [hy, q]) hx
    rw [on, on] at h
    have e2 : ∀ c : Bool, x.sem (put σ e c) = x.sem (put σ e true) := fun c => by
      cases c with
      | false => exact h
      | true => rfl
    have e3 : σ = put σ e (σ e) := funext fun y => by
      unfold put
      by_cases q : y = e
      · rw [if_pos q, q]
      · rw [if_neg q]
    show x.sem (put σ e b) = x.sem σ
    rw [e2 b, ← e2 (σ e), ← e3]
def p_ldep (R : Rs) (d : Nat) : DSp R := fun ts g post => ∃ (x : Bx) (E : List Int) (e : Int), ts = [x.t, .lst (E.map .int), .int e] ∧ (x.wf E d ∧ E.length ≤ 8) ∧ post (.bl (ldep x E e)) g
def p_lorders (R : Rs) : DSp R := fun ts g post => ∃ M : List Int, ts = [.lst (M.map .int)] ∧ M.length ≤ 5 ∧ post (partsT (ords M)) g
def b2i (b : Bool) : Int := if b then 1 else 0
/-- what the entry changes, over all orders -/
theorem shares_orders {F : (Int → Bool) → Bool} {A : List Int} (nd : A.Nodup) {e : Int} (he : e ∈ A) :
    ((ords A).map fun o => b2i (F fun x => decide (x ∈ o.take (o.idxOf e) ++ [e])) - b2i (F fun x => decide (x ∈ o.take (o.idxOf e)))).sum = shDiff F (A.filter fun x => !decide (x = e)) e := by
  have hG : PInv fun q => b2i (F fun x => decide (x ∈ q ++ [e])) - b2i (F fun x => decide (x ∈ q)) := fun p q z => by
    have e1 : (fun x => decide (x ∈ p ++ [e])) = fun x => decide (x ∈ q ++ [e]) := funext fun x => decide_eq_decide.mpr (z.append_right [e]).mem_iff
    have e2 : (fun x => decide (x ∈ p)) = fun x => decide (x ∈ q) := funext fun x => decide_eq_decide.mpr z.mem_iff
    show b2i (F fun x => decide (x ∈ p ++ [e])) - b2i (F fun x => decide (x ∈ p)) = _
    rw [e1, e2]
  have h := ords_bef A.reverse hG ((List.reverse_perm A).nodup_iff.mpr nd) (List.mem_reverse.mpr he)
  rw [List.reverse_reverse, List.length_reverse] at h
  have e1 : ((ords A).map fun o => b2i (F fun x => decide (x ∈ o.take (o.idxOf e) ++ [e])) - b2i (F fun x => decide (x ∈ o.take (o.idxOf e)))).sum = ((ords A).map (bef (fun q => b2i (F fun x => decide (x ∈ q ++ [e])) - b2i (F fun x => decide (x ∈ q))) e)).sum := sum_congr fun o _ => (bef_take (G := fun q => b2i (F fun x => decide (x ∈ q ++ [e])) - b2i (F fun x => decide (x ∈ q)))).symm
  rw [e1, h]
  have ol := others_len nd he
  generalize hD : (A.filter fun x => !decide (x = e)) = D at ol ⊢
  have hno : e ∉ D := fun q => by
    rw [← hD] at q
    have := (List.mem_filter.mp q).2
    simp at this
  have key : ∀ (φ : List Int → Bool), wgt φ D (gOf D.length) = sumS (fun p => b2i (φ p) * gOf D.length p.length) D := fun φ => by
    unfold wgt sumS
    induction subC D with
    | nil => rfl
    | cons p ps ih =>
      rw [List.map_cons, List.sum_cons, ← ih]
      cases hp : φ p with
      | true =>
        rw [List.filter_cons, if_pos hp, List.map_cons, List.sum_cons]
        show _ = 1 * _ + _
        rw [Int.one_mul]
      | false =>
        rw [List.filter_cons, if_neg (by rw [hp]; exact Bool.false_ne_true)]
        show _ = 0 * _ + _
        rw [Int.zero_mul, Int.zero_add]
  unfold shDiff
  rw [key, key, show A.length - 1 = D.length by omega]
  have sub : ∀ f h : List Int → Int, sumS (fun p => f p - h p) D = sumS f D - sumS h D := fun f h => by
    have := sum_map_add (F := fun p => f p - h p) (G := h) (xs := subC D)
    unfold sumS
    rw [show (fun p => f p - h p + h p) = f from funext fun p => by omega] at this
    show _ = (List.map f (subC D)).sum - _
    rw [this]
    omega
  rw [← sub]
  refine sumS_congr fun p hp => ?_
  have hep : e ∉ p := fun q => hno (hp.subset q)
  have k1 : (fun y => decide (y ∈ p)) = put (fun y => decide (y ∈ p)) e false := funext fun y => by
    unfold put
    by_cases q : y = e
    · rw [if_pos q, q]
      exact decide_eq_false hep
    · rw [if_neg q]
  have k2 : (fun y => decide (y ∈ p ++ [e])) = put (fun y => decide (y ∈ p)) e true := funext fun y => by
    unfold put
    by_cases q : y = e
    · rw [if_pos q]
      exact decide_eq_true (by simp [q])
    · rw [if_neg q]
      simp [q]
  show (b2i (F fun x => decide (x ∈ p ++ [e])) - b2i (F fun x => decide (x ∈ p))) * _ = b2i (F (put (fun x => decide (x ∈ p)) e true)) * _ - b2i (F (put (fun x => decide (x ∈ p)) e false)) * _
  rw [k2, ← k1, Int.sub_mul]
end Zc
/-! Ch: int(b); shares are plain. -/
namespace Zc
open PySem L2
section
variable {K : PySem.W.Frag} {R : Rs} {p : T → Prop}
theorem wc_intB2 {b : Bool} (h : p (.int (b2i b))) : wC K R (fun xs H Q => (∃ i, xs = [V.int i] ∧ Q (V.int i) H) ∨ ∃ k, xs = [V.bl k] ∧ Q (V.int (if k = true then 1 else 0)) H) [.bl b] p := fun g F H vx ii rx Q q => by
  cases rx with
  | cons r1 r => cases r with
    | nil =>
      cases r1
      exact .inr ⟨b, rfl, q _ _ F H .refl ii (.int _) h⟩
end
theorem trips_plain {A : List Int} {f h : Int → Int} (hl : A.length ≤ 8) : (T.lst (A.map fun e => trip e (f e) (h e))).plain 2 = true := by
  refine plain_lst (fun t ht => ?_) (by rw [List.length_map]; omega)
  obtain ⟨e, _, rfl⟩ := List.mem_map.mp ht
  refine plain_tup (fun t ht => ?_) (by show 3 ≤ 1000; decide)
  rcases List.mem_cons.mp ht with rfl | ht
  · exact plain_int
  · rcases List.mem_cons.mp ht with rfl | ht
    · exact plain_int
    · cases List.mem_singleton.mp ht
      exact plain_int
end Zc
/-! Ci: shares add up. -/
namespace Zc
open PySem L2
theorem den_agree {ns : List Nd} (g : Good ns) {σ τ : Int → Bool} : ∀ c : Nat, c < ns.length + 2 → (∀ e, Asks ns c e → σ e = τ e) → den ns c σ = den ns c τ := by
  intro c
  induction c using Nat.strongRecOn with
  | _ c ih =>
    intro hc ha
    cases hn : node ns c with
    | none =>
      have c2 : c < 2 := Nat.lt_of_not_le fun q => by
        obtain ⟨n, z⟩ := node_some q hc
        rw [hn] at z
        cases z
      rcases (show c = 0 ∨ c = 1 by omega) with rfl | rfl
      · rw [den_0, den_0]
      · rw [den_1, den_1]
    | some n =>
      obtain ⟨k1, k2, _⟩ := g.kids hn
      have he : σ n.e = τ n.e := ha n.e ⟨c, n, .refl, hn, rfl⟩
      have sub : ∀ k, (1 < k → Sub ns c k) → ∀ e, Asks ns k e → Asks ns c e := fun k hs e ⟨i, m, h1, h2, h3⟩ => by
        rcases Nat.lt_or_ge 1 k with q | q
        · exact ⟨i, m, (hs q).trans h1, h2, h3⟩
        · exact absurd (AllIn.leaf (D := []) (show k < 2 by omega) e ⟨i, m, h1, h2, h3⟩) List.not_mem_nil
      rw [den_node g hn, den_node g hn, he, ih n.t k2 (by omega) fun e h => ha e (sub _ (sub_t hn) e h), ih n.w k1 (by omega) fun e h => ha e (sub _ (sub_w hn) e h)]
theorem sum_swap {α β : Type} {f : α → β → Int} {xs : List α} {ys : List β} : (xs.map fun x => (ys.map fun y => f x y).sum).sum = (ys.map fun y => (xs.map fun x => f x y).sum).sum := by
  induction xs with
  | nil =>
    show 0 = (ys.map fun _ => (0 : Int)).sum
    induction ys with
    | nil => rfl
    | cons y ys ih => rw [List.map_cons, List.sum_cons, ← ih] <;> rfl
  | cons x xs ih =>
    rw [List.map_cons, List.sum_cons, ih, ← sum_map_add]
    rfl
theorem tele : ∀ {o : List Int} {G : List Int → Int}, o.Nodup → (o.map fun e => G (o.take (o.idxOf e) ++ [e]) - G (o.take (o.idxOf e))).sum = G o - G []
  | [], G, _ => by
    show (0 : Int) = G [] - G []
    omega
  | x :: o, G, nd => by
    obtain ⟨n1, n2⟩ := List.nodup_cons.mp nd
    rw [List.map_cons, List.sum_cons, List.idxOf_cons_self]
    have e1 : (o.map fun e => G ((x :: o).take ((x :: o).idxOf e) ++ [e]) - G ((x :: o).take ((x :: o).idxOf e))) = o.map fun e => G (x :: (o.take (o.idxOf e) ++ [e])) - G (x :: o.take (o.idxOf e)) := List.map_congr_left fun e he => by
      have hx : x ≠ e := fun z => n1 (by rw [z]; exact he)
      have : (x :: o).idxOf e = o.idxOf e + 1 := by
        rw [List.idxOf_cons, show (x == e) = false from beq_eq_false_iff_ne.mpr hx] <;> rfl
      rw [this] <;> rfl
    rw [e1, tele (G := fun q => G (x :: q)) n2]
    show G ([] ++ [x]) - G [] + (G (x :: o) - G [x]) = _
    rw [List.nil_append]
    omega
/-- all shares together -/
theorem shares_sum {F : (Int → Bool) → Bool} {A : List Int} (nd : A.Nodup) : (A.map fun e => shDiff F (A.filter fun x => !decide (x = e)) e).sum = (fac A.length : Int) * (b2i (F fun x => decide (x ∈ A)) - b2i (F fun x => decide (x ∈ ([] : List Int)))) := by
  have e1 : (A.map fun e => shDiff F (A.filter fun x => !decide (x = e)) e).sum = (A.map fun e => ((ords A).map fun o => b2i (F fun x => decide (x ∈ o.take (o.idxOf e) ++ [e])) - b2i (F fun x => decide (x ∈ o.take (o.idxOf e)))).sum).sum := sum_congr fun e he => (shares_orders nd he).symm
  have e2 : ((ords A).map fun o => (A.map fun e => b2i (F fun x => decide (x ∈ o.take (o.idxOf e) ++ [e])) - b2i (F fun x => decide (x ∈ o.take (o.idxOf e)))).sum).sum = ((ords A).map fun _ => b2i (F fun x => decide (x ∈ A)) - b2i (F fun x => decide (x ∈ ([] : List Int)))).sum := sum_congr fun o ho => by
    have op := ords_perm' ho
    rw [← sum_perm (f := fun e => b2i (F fun x => decide (x ∈ o.take (o.idxOf e) ++ [e])) - b2i (F fun x => decide (x ∈ o.take (o.idxOf e)))) op]
    rw [tele (G := fun q => b2i (F fun x => decide (x ∈ q))) (op.nodup_iff.mpr nd)]
    have : (fun x => decide (x ∈ o)) = fun x => decide (x ∈ A) := funext fun x => decide_eq_decide.mpr op.mem_iff
    show b2i (F fun x => decide (x ∈ o)) - _ = _
    rw [this]
  rw [e1, sum_swap, e2, List.map_const', ords_len']
  generalize b2i (F fun x => decide (x ∈ A)) - b2i (F fun x => decide (x ∈ ([] : List Int))) = d
  induction fac A.length with
  | zero =>
    show (0 : Int) = ((0 : Nat) : Int) * d
    simp
  | succ n ih =>
    rw [List.replicate_succ, List.sum_cons, ih, Int.natCast_succ, Int.add_mul, Int.one_mul, Int.add_comm]
theorem b2i_01 (b : Bool) : 0 ≤ b2i b ∧ b2i b ≤ 1 := by cases b <;> decide
theorem shares_le {F : (Int → Bool) → Bool} {A : List Int} (nd : A.Nodup) {e : Int} (he : e ∈ A) : (shDiff F (A.filter fun x => !decide (x = e)) e).natAbs ≤ fac A.length := by
  rw [← shares_orders nd he, ← ords_len']
  induction ords A with
  | nil => exact Nat.le_refl 0
  | cons o os ih =>
    rw [List.map_cons, List.sum_cons, List.length_cons]
    have h1 := b2i_01 (F fun x => decide (x ∈ o.take (o.idxOf e) ++ [e]))
    have h2 := b2i_01 (F fun x => decide (x ∈ o.take (o.idxOf e)))
    omega
/-- a fraction in lowest terms -/
theorem low_facts {a b : Int} (hb : 0 < b) (hab : a.natAbs ≤ b.natAbs) : 1 ≤ lowD a b ∧ (lowN a b).natAbs ≤ (lowD a b).natAbs ∧ Nat.gcd (lowN a b).natAbs (lowD a b).natAbs = 1 ∧ lowN a b * b = lowD a b * a ∧ (lowD a b).natAbs ≤ b.natAbs := by
  unfold lowN lowD
  have hg : 0 < Nat.gcd a.natAbs b.natAbs := Nat.gcd_pos_of_pos_right _ (by omega)
  generalize hgd : Nat.gcd a.natAbs b.natAbs = g at hg ⊢
  have da : (g : Int) ∣ a := Int.natAbs_dvd_natAbs.mp (by rw [Int.natAbs_natCast, ← hgd]; exact Nat.gcd_dvd_left _ _)
  have db : (g : Int) ∣ b := Int.natAbs_dvd_natAbs.mp (by rw [Int.natAbs_natCast, ← hgd]; exact Nat.gcd_dvd_right _ _)
  obtain ⟨x, rfl⟩ := da
  obtain ⟨y, rfl⟩ := db
  have g0 : (g : Int) ≠ 0 := by omega
  rw [Int.mul_ediv_cancel_left _ g0, Int.mul_ediv_cancel_left _ g0]
  have yp : 0 < y := by
    refine Int.lt_of_not_ge fun q => ?_
    have := Int.mul_nonpos_of_nonneg_of_nonpos (show (0 : Int) ≤ g by omega) q
    omega
  rw [Int.natAbs_mul, Int.natAbs_mul, Int.natAbs_natCast] at *
  refine ⟨by omega, Nat.le_of_mul_le_mul_left hab hg, ?_, ?_, Nat.le_mul_of_pos_left _ hg⟩
  · rw [Nat.gcd_mul_left] at hgd
    exact Nat.eq_of_mul_eq_mul_left hg (by rw [hgd, Nat.mul_one])
  · rw [Int.mul_left_comm, Int.mul_left_comm y, Int.mul_comm x]
end Zc
namespace L74
open PySem L2 Zc
def topS (i : Nat) : Stmt := PySem.Challenge.pw_lineworks_k74_shares_add_up.main.body.getD i (.Pass ⟨0, 0, 0, 0⟩)
set_option hygiene false
local macro_rules | `(tactic| wtm_at "n") => `(tactic| ((with_reducible refine' p_next_i ?_ ?_ ?_); (first | decide | omega | (split <;> omega)); (first | decide | omega | (split <;> omega)); intro r h1))
set_option hygiene true
local macro_rules | `(tactic| wtm_at "zE") => `(tactic| ((with_reducible show wE _ _ _ _ _ _ _); first
  | ((with_reducible refine' we_var ?e ?h); (case e => exact rfl))
  | with_reducible refine' we_int ?_
  | with_reducible refine' we_str ?_
  | ((with_reducible refine' we_ixBor ?e ?h); (case e => exact rfl); intro B1)
  | ((with_reducible refine' we_ixOwn ?e ?h); (case e => exact rfl))
  | ((with_reducible refine' we_cbBor ?e ?h); (case e => exact rfl); intro B1)
  | ((with_reducible refine' we_cbOwn ?e ?h); (case e => exact rfl); intro B1)
  | with_reducible refine' we_op ?_
  | with_reducible refine' we_call ?_
  | with_reducible refine' we_tup ?_
  | with_reducible refine' we_slL ?_
  | with_reducible refine' we_slT ?_
  | with_reducible refine' we_bl ?_
  | with_reducible refine' we_non ?_
  | with_reducible refine' we_isi ?_
  | with_reducible refine' we_isiT ?_
  | with_reducible refine' we_cb ?_
  | with_reducible refine' we_lst ?_
  | with_reducible refine' we_if ?_
  | with_reducible refine' we_notT ?_
  | with_reducible refine' we_andT ?_
  | with_reducible refine' we_orT ?_
  | with_reducible refine' we_un ?_
  | ((with_reducible refine' we_own ?e ?h); (case e => exact rfl))
  | ((with_reducible refine' we_append ?e ?h); (case e => exact rfl))))
local macro_rules | `(tactic| wtm_at "zA") => `(tactic| first
  | with_reducible refine' wa_nil ?_
  | with_reducible refine' wa_cons ?_
  | with_reducible refine' wm_nil ?_
  | ((with_reducible refine' wm_bor ?e ?v ?h); (case e => exact rfl); (case v => exact rfl))
  | with_reducible refine' wm_dat ?_
  | with_reducible refine' wm_dtb ?_
  | with_reducible refine' wu_int ?_
  | ((with_reducible show wO _ _ _ _ _ _ _); first | with_reducible refine' wo_none ?_ | with_reducible refine' wo_some ?_)
  | ((with_reducible show wP _ _ _ _ _ _ _); first | refine' wp_nil ?_ | refine' wp_cons ?_))
local macro_rules | `(tactic| wtm_at "zT") => `(tactic| ((with_reducible show wT _ _ _ _ _ _ _); first
  | with_reducible refine' wt_test ?_
  | with_reducible refine' wt_yes ?_
  | with_reducible refine' wt_and ?_
  | with_reducible refine' wt_or ?_
  | with_reducible refine' wt_not ?_
  | ((with_reducible refine' wt_truBor ?e ?h); (case e => exact rfl); intro B1)
  | with_reducible refine' wt_tru ?_))
local macro_rules | `(tactic| wtm_at "zR") => `(tactic| ((with_reducible show wR _ _ _ _ _ _); first
  | with_reducible refine' wr_int0 ?_
  | with_reducible refine' wr_bl0 ?_
  | with_reducible refine' wr_intC (cmul_l (by omega)) ?_
  | with_reducible refine' wr_intC (cmul_r (by omega)) ?_
  | ((with_reducible refine' wr_mod ?_ ?_); (first | decide | omega))
  | ((with_reducible refine' wr_fdiv ?_ ?_); (first | (constructor <;> decide) | (constructor <;> omega)))
  | with_reducible refine' wr_eqI ?_
  | with_reducible refine' wr_eqS ?_
  | with_reducible refine' wr_ixT ?_
  | with_reducible refine' wr_ixL ?_
  | with_reducible refine' wr_neI ?_
  | with_reducible refine' wr_neS ?_
  | with_reducible refine' wr_eqB ?_
  | with_reducible refine' wr_neB ?_
  | with_reducible refine' wr_inS2 ?_
  | with_reducible refine' wr_isN ?_
  | with_reducible refine' wr_notN ?_))
local macro_rules | `(tactic| wtm_at "zC") => `(tactic| ((with_reducible show wC _ _ _ _ _); first
  | with_reducible refine' wc_lenL ?_
  | with_reducible refine' wc_lenT ?_
  | with_reducible refine' wc_min2 ?_
  | with_reducible refine' wc_max2 ?_
  | with_reducible refine' wc_intI ?_
  | with_reducible refine' wc_intB ?_
  | with_reducible refine' wc_listL ?_
  | with_reducible refine' wc_listT ?_
  | with_reducible refine' wc_listD ?_
  | with_reducible refine' wc_abs ?_
  | with_reducible refine' wc_all ?_
  | with_reducible refine' wc_gcd ?_))
local macro_rules | `(tactic| wtm_at "zQ") => `(tactic| ((with_reducible show wQ _ _ _ _ _ _ _ _ _ _); first
  | with_reducible refine' wq_seq ?_
  | with_reducible refine' wq_next ?_
  | with_reducible refine' wq_setDisp ?_
  | with_reducible refine' wq_if ?_
  | with_reducible refine' wq_ret ?_
  | with_reducible refine' wq_setT ?_
  | with_reducible refine' wq_setD ?_
  | with_reducible refine' wq_setL (wa_nil ?_)
  | with_reducible refine' wq_set ?_
  | with_reducible refine' wq_drop ?_
  | with_reducible refine' wq_par ?_
  | with_reducible refine' wq_break ?_
  | with_reducible refine' wq_cont ?_))
local macro_rules | `(tactic| wtm_at "zI") => `(tactic| first
  | with_reducible refine' w_iteT ?_
  | with_reducible refine' w_iteF ?_
  | (with_reducible refine' w_iteEN (fun _ => ?_) (fun _ => ?_))
  | (with_reducible refine' w_iteE (fun _ => ?_) (fun _ => ?_))
  | (refine' w_iteP (by decide +kernel) ?_)
  | (refine' w_iteM (by decide +kernel) ?_)
  | (refine' w_iteBT (by decide +kernel) ?_)
  | (refine' w_iteBF (by decide +kernel) ?_)
  | ((with_reducible refine' w_isNF ?hN ?_); (case hN => rfl))
  | ((with_reducible refine' w_isNT ?hN ?_); (case hN => rfl))
  | ((with_reducible refine' w_isNNF ?hN ?_); (case hN => rfl))
  | ((with_reducible refine' w_isNNT ?hN ?_); (case hN => rfl))
  | (refine' w_iteNP (by decide +kernel) ?_)
  | (refine' w_iteNM (by decide +kernel) ?_)
  | (with_reducible refine' w_iteN (fun _ => ?_) (fun _ => ?_))
  | (with_reducible refine' w_iteD (fun _ => ?_) (fun _ => ?_))
  | (refine' w_ite (fun _ => ?_) (fun _ => ?_)))
local macro_rules | `(tactic| wtm_at "z") => `(tactic| first
  | wtm_at "zE"
  | wtm_at "zR"
  | wtm_at "zA"
  | wtm_at "zT"
  | wtm_at "zQ"
  | wtm_at "zC"
  | wtm_at "n"
  | (refine' And.intro (show _ ≤ sizeLine from Nat.le_of_ble_eq_true rfl) ?_)
  | (refine' And.intro rfl (And.intro rfl ?_))
  | (with_reducible refine' isi_i rfl (by decide +kernel) ?_)
  | (with_reducible refine' isiT_i rfl (by decide +kernel) (by decide +kernel) ?_)
  | (refine' And.intro (Eq.refl (List.map Ent.thaw _)) ?_)
  | (refine' Exists.intro _ (And.intro rfl ?_))
  | (refine' Exists.intro _ (Exists.intro _ (And.intro rfl (And.intro rfl ?_))))
  | wtm_at "zI")
local macro_rules | `(tactic| wtm_at "zb") => `(tactic| first
  | with_reducible refine' wq_ret (we_bor fun _ => ?_)
  | with_reducible refine' wq_setD ?_
  | with_reducible refine' wq_setL (wa_nil ?_)
  | with_reducible refine' wq_set (we_bor fun _ => ?_)
  | with_reducible refine' wq_if (wt_bor fun _ => ?_)
  | with_reducible refine' wt_test ?_
  | (refine' And.intro rfl (And.intro rfl ?_))
  | (refine' And.intro rfl ?_)
  | wtm_at "z")
section
variable {P : Program} {w : World} {K : PySem.W.Frag} {mg : Str → Option Value} {base : Heap} {R : Rs}
abbrev s_andleaf : Stmt := topS 5
abbrev N_andleaf : List Str := ["first", "second"]
theorem sc_andleaf : FnScope ["first", "second"] ["first", "second"] (defScope s_andleaf) := ⟨rfl, rfl, rfl, by decide +kernel, rfl, by decide +kernel, by decide +kernel⟩
theorem c_andleaf  (D : Dfn K mg "and_leaf" s_andleaf) (T : Bls mg) (hN : ∃ t, mg "NEVER" = some (.int 0 t)) (hA : ∃ t, mg "ALWAYS" = some (.int 1 t)) : Cal P w K mg base 1 "and_leaf" ["first", "second"] (spD K R [false, false] (p_leaf R .and)) := by
  obtain ⟨tN, gN⟩ := hN
  obtain ⟨tA, gA⟩ := hA
  obtain ⟨f, fd, F, hm⟩ := D.ex
  refine ⟨f, fd, F.ok sc_andleaf (spD_len fun ts g post h => ?len) (fun cdv A outer s H vs Q XE hr h => ?body), hm, F.kp, F.bindsN fun _ _ _ _ _ _ us hl => match us, hl with | [_, _], _ => rfl⟩
  case len =>
    obtain ⟨_, _, rfl, _⟩ := h
    rfl
  case body =>
    refine ⟨_, PSs.nox (pss_cons (ps_if (PW.pt (pw_or (pt_cmpR op_eq (pv 0) (pe_glob (v := .int 0) (by rfl) gN ⟨_, rfl⟩) (nomark _)) (pw_or1 (pt_cmpR op_eq (pv 1) (pe_glob (v := .int 0) (by rfl) gN ⟨_, rfl⟩) (nomark _))))) (pss_one (ps_ret (pe_glob (v := .int 0) (by rfl) gN ⟨_, rfl⟩))) pss_nil) (pss_cons (ps_if (pt_cmpR op_eq (pv 0) (pe_glob (v := .int 1) (by rfl) gA ⟨_, rfl⟩) (nomark _)) (pss_one (ps_ret (pv 1))) pss_nil) (pss_one (ps_ret (pe_ifExp (PW.pt (pw_or (pt_cmpR op_eq (pv 1) (pe_glob (v := .int 1) (by rfl) gA ⟨_, rfl⟩) (nomark _)) (pw_or1 (pt_cmpR op_eq (pv 0) (pv 1) (nomark _))))) (pv 0) pe_non))))), wq_enter h (fun ts g post h => ?l2) fun B ts g post hp => ?_⟩
    case l2 =>
      obtain ⟨_, _, rfl, _⟩ := h
      exact Nat.le_of_ble_eq_true rfl
    clear h
    obtain ⟨a, b, rfl, hp⟩ := hp
    show wQ _ _ _ _ _ [.dat _, .dat _] _ _ _ _
    try dsimp only [cxOf, Cx.wish, Cx.blk]
    repeat' (wtm_at "z")
    all_goals
      refine (fun (x y : Zc.T) (e : y = x) (h : post x g) => (e ▸ h : post y g)) _ _ ?_ hp
      dsimp only [Fo.leaf]
      repeat' split
      all_goals first
        | rfl
        | (exfalso; omega)
        | (show Zc.T.int _ = Zc.T.int _; congr 1; omega)
abbrev s_orleaf : Stmt := topS 6
abbrev N_orleaf : List Str := ["first", "second"]
theorem sc_orleaf : FnScope ["first", "second"] ["first", "second"] (defScope s_orleaf) := ⟨rfl, rfl, rfl, by decide +kernel, rfl, by decide +kernel, by decide +kernel⟩
theorem c_orleaf  (D : Dfn K mg "or_leaf" s_orleaf) (T : Bls mg) (hN : ∃ t, mg "NEVER" = some (.int 0 t)) (hA : ∃ t, mg "ALWAYS" = some (.int 1 t)) : Cal P w K mg base 1 "or_leaf" ["first", "second"] (spD K R [false, false] (p_leaf R .or)) := by
  obtain ⟨tN, gN⟩ := hN
  obtain ⟨tA, gA⟩ := hA
  obtain ⟨f, fd, F, hm⟩ := D.ex
  refine ⟨f, fd, F.ok sc_orleaf (spD_len fun ts g post h => ?len) (fun cdv A outer s H vs Q XE hr h => ?body), hm, F.kp, F.bindsN fun _ _ _ _ _ _ us hl => match us, hl with | [_, _], _ => rfl⟩
  case len =>
    obtain ⟨_, _, rfl, _⟩ := h
    rfl
  case body =>
    refine ⟨_, PSs.nox (pss_cons (ps_if (PW.pt (pw_or (pt_cmpR op_eq (pv 0) (pe_glob (v := .int 1) (by rfl) gA ⟨_, rfl⟩) (nomark _)) (pw_or1 (pt_cmpR op_eq (pv 1) (pe_glob (v := .int 1) (by rfl) gA ⟨_, rfl⟩) (nomark _))))) (pss_one (ps_ret (pe_glob (v := .int 1) (by rfl) gA ⟨_, rfl⟩))) pss_nil) (pss_cons (ps_if (pt_cmpR op_eq (pv 0) (pe_glob (v := .int 0) (by rfl) gN ⟨_, rfl⟩) (nomark _)) (pss_one (ps_ret (pv 1))) pss_nil) (pss_one (ps_ret (pe_ifExp (PW.pt (pw_or (pt_cmpR op_eq (pv 1) (pe_glob (v := .int 0) (by rfl) gN ⟨_, rfl⟩) (nomark _)) (pw_or1 (pt_cmpR op_eq (pv 0) (pv 1) (nomark _))))) (pv 0) pe_non))))), wq_enter h (fun ts g post h => ?l2) fun B ts g post hp => ?_⟩
    case l2 =>
      obtain ⟨_, _, rfl, _⟩ := h
      exact Nat.le_of_ble_eq_true rfl
    clear h
    obtain ⟨a, b, rfl, hp⟩ := hp
    show wQ _ _ _ _ _ [.dat _, .dat _] _ _ _ _
    try dsimp only [cxOf, Cx.wish, Cx.blk]
    repeat' (wtm_at "z")
    all_goals
      refine (fun (x y : Zc.T) (e : y = x) (h : post x g) => (e ▸ h : post y g)) _ _ ?_ hp
      dsimp only [Fo.leaf]
      repeat' split
      all_goals first
        | rfl
        | (exfalso; omega)
        | (show Zc.T.int _ = Zc.T.int _; congr 1; omega)
abbrev s_differleaf : Stmt := topS 7
abbrev N_differleaf : List Str := ["first", "second"]
theorem sc_differleaf : FnScope ["first", "second"] ["first", "second"] (defScope s_differleaf) := ⟨rfl, rfl, rfl, by decide +kernel, rfl, by decide +kernel, by decide +kernel⟩
theorem c_differleaf  (D : Dfn K mg "differ_leaf" s_differleaf) (T : Bls mg) (hN : ∃ t, mg "NEVER" = some (.int 0 t)) (hA : ∃ t, mg "ALWAYS" = some (.int 1 t)) : Cal P w K mg base 1 "differ_leaf" ["first", "second"] (spD K R [false, false] (p_leaf R .dif)) := by
  obtain ⟨tN, gN⟩ := hN
  obtain ⟨tA, gA⟩ := hA
  obtain ⟨f, fd, F, hm⟩ := D.ex
  refine ⟨f, fd, F.ok sc_differleaf (spD_len fun ts g post h => ?len) (fun cdv A outer s H vs Q XE hr h => ?body), hm, F.kp, F.bindsN fun _ _ _ _ _ _ us hl => match us, hl with | [_, _], _ => rfl⟩
  case len =>
    obtain ⟨_, _, rfl, _⟩ := h
    rfl
  case body =>
    refine ⟨_, PSs.nox (pss_cons (ps_if (pt_cmpR op_eq (pv 0) (pv 1) (nomark _)) (pss_one (ps_ret (pe_glob (v := .int 0) (by rfl) gN ⟨_, rfl⟩))) pss_nil) (pss_cons (ps_if (pt_cmpR op_eq (pv 0) (pe_glob (v := .int 0) (by rfl) gN ⟨_, rfl⟩) (nomark _)) (pss_one (ps_ret (pv 1))) pss_nil) (pss_one (ps_ret (pe_ifExp (pt_cmpR op_eq (pv 1) (pe_glob (v := .int 0) (by rfl) gN ⟨_, rfl⟩) (nomark _)) (pv 0) pe_non))))), wq_enter h (fun ts g post h => ?l2) fun B ts g post hp => ?_⟩
    case l2 =>
      obtain ⟨_, _, rfl, _⟩ := h
      exact Nat.le_of_ble_eq_true rfl
    clear h
    obtain ⟨a, b, rfl, hp⟩ := hp
    show wQ _ _ _ _ _ [.dat _, .dat _] _ _ _ _
    try dsimp only [cxOf, Cx.wish, Cx.blk]
    repeat' (wtm_at "z")
    all_goals
      refine (fun (x y : Zc.T) (e : y = x) (h : post x g) => (e ▸ h : post y g)) _ _ ?_ hp
      dsimp only [Fo.leaf]
      repeat' split
      all_goals first
        | rfl
        | (exfalso; omega)
        | (show Zc.T.int _ = Zc.T.int _; congr 1; omega)
abbrev s_make : Stmt := inClass (topS 9) 1
abbrev N_make : List Str := ["self", "entry", "without", "there", "key"]
theorem sc_make : FnScope ["self", "entry", "without", "there", "key"] ["self", "entry", "without", "there"] (defScope s_make) := ⟨rfl, rfl, rfl, by decide +kernel, rfl, by decide +kernel, by decide +kernel⟩
theorem c_make {C : Addr} {E : List Int} (hs : HasStore R C E) (CL : ClsS K C) (D : DfnM K C "make" "Diagrams.make" s_make) (T : Bls mg)  : CalM P w K mg base 1 C "make" ["self", "entry", "without", "there"] (spD K R [false, false, false, false] (p_make hs)) := by
  obtain ⟨f, fd, F, hm⟩ := D.ex
  refine ⟨f, fd, F.ok sc_make (spD_len fun ts g post h => ?len) (fun cdv A outer s H vs Q XE hr h => ?body), hm, F.bindsN fun _ _ _ _ _ _ us hl => match us, hl with | [_, _, _, _], _ => rfl⟩
  case len =>
    obtain ⟨_, _, _, _, rfl, _⟩ := h
    rfl
  case body =>
    refine ⟨_, PSs.nox (pss_cons (ps_if (pt_cmpR op_eq (pv 2) (pv 3) (nomark _)) (pss_one (ps_ret (pv 2))) pss_nil) (pss_cons (ps_set (i := 4) sc_make.nd rfl (Or.inl rfl) (pe_tup (pa_cons (pv 1) (pa_cons (pv 2) (pa_cons (pv 3) pa_nil))))) (pss_cons (ps_if (pt_cmp (pc_dnotin (hu_of hr) (pv 4) (fldK (K := K) (pv 0))) rfl) (pss_cons (ps_dput (hu_of hr) (fldK (K := K) (pv 0)) (pv 4) (pe_callB (lenK (K := K)) (by rfl) T.len bt_len (pa_cons (fldK (K := K) (pv 0)) pa_nil)) rfl) (pss_one (ps_expr (pe_bm PySem.F.plainAttrs_list PySem.F.slot_list_append PySem.F.type_list_append mt_append (fldK (K := K) (pv 0)) (pa_cons (pv 4) pa_nil))))) pss_nil) (pss_one (ps_ret (pe_dget (hu_of hr) (fldK (K := K) (pv 0)) (pv 4) (fun _ _ => rfl))))))), wq_enter h (fun ts g post h => ?l2) fun B ts g post hp => ?_⟩
    case l2 =>
      obtain ⟨_, _, _, _, rfl, _⟩ := h
      exact Nat.le_of_ble_eq_true rfl
    clear h
    obtain ⟨s, e, w, t, rfl, hg, ⟨h0, h1, h2, h3, h4, h5, h6⟩, hp⟩ := hp
    show wQ _ _ _ _ _ [.dat _, .dat _, .dat _, .dat _, .any] _ _ _ _
    try dsimp only [cxOf, Cx.wish, Cx.blk]
    refine wq_seqM (fun g' es' => g' = g ∧ es' = [.dat (.raw (.ref s.a)), .dat (.int e), .dat (.int (w : Int)), .dat (.int (t : Int)), .any] ∧ ¬ (w : Int) = t) ?_ ?_
    · repeat' (wtm_at "z")
      · rename_i e1
        have e1 : w = t := by omega
        subst e1
        exact hp w g s hg h0 ((Ext.refl s).mono (Nat.zero_le _) (Nat.le_refl _)) h2 fun σ => by split <;> rfl
      · assumption
    · rintro g _ ⟨rfl, rfl, e1⟩
      refine wq_makeTail hs CL (n := ⟨e, w, t⟩) hg ?e0 ?e1 ?e2 ?e3 ?h4 ⟨h1, h2, h3, fun z => e1 (by show (w : Int) = t; exact congrArg _ z), h4, h5, h6⟩ fun i g' s' q1 q2 q3 q4 => ?fin
      case e0 => rfl
      case e1 => rfl
      case e2 => rfl
      case e3 => rfl
      case h4 => exact Nat.le_of_ble_eq_true rfl
      exact hp i g' s' q1 q3 q2 (node_lt q4).2.1 fun σ => by
        have := den_node q3.good q4 (σ := σ)
        rw [q2.den q3 h2, q2.den q3 h3] at this
        exact this
abbrev s_comb : Stmt := inClass (topS 9) 4
abbrev N_comb : List Str := ["self", "form", "first", "second", "action", "plain", "key"]
theorem sc_comb : FnScope ["self", "form", "first", "second", "action", "plain", "key"] ["self", "form", "first", "second"] (defScope s_comb) := ⟨rfl, rfl, rfl, by decide +kernel, rfl, by decide +kernel, by decide +kernel⟩
theorem c_comb {C : Addr} {E : List Int} (hs : HasStore R C E) (CL : ClsS K C) {aL : Addr} {fa : Fo → Addr} (LV : Leaves w K mg aL fa) (C_leaf : ∀ f : Fo, Cal P w K mg base 1 f.name ["first", "second"] (spD K R [false, false] (p_leaf R f))) (r : Nat) (D : DfnM K C "_combined" "Diagrams._combined" s_comb) (T : Bls mg) (C_split : CalM P w K mg base (3 * r + 2) C "_split" ["self", "form", "first", "second"] (spD K R [false, false, false, false] (p_split hs r))) : CalM P w K mg base (3 * r + 3) C "_combined" ["self", "form", "first", "second"] (spD K R [false, false, false, false] (p_comb hs r)) := by
  obtain ⟨f, fd, F, hm⟩ := D.ex
  refine ⟨f, fd, F.ok sc_comb (spD_len fun ts g post h => ?len) (fun cdv A outer s H vs Q XE hr h => ?body), hm, F.bindsN fun _ _ _ _ _ _ us hl => match us, hl with | [_, _, _, _], _ => rfl⟩
  case len =>
    obtain ⟨_, _, _, _, rfl, _⟩ := h
    rfl
  case body =>
    refine ⟨_, PSs.nox (pss_cons (ps_set (i := 4) sc_comb.nd rfl (Or.inl rfl) (pe_ix (ixDK (K := K) (w := w)) (pe_glob (v := .ref aL) (by rfl) LV.gL rfl) (pv 1) (fun _ _ => rfl))) (pss_cons (ps_set (i := 5) sc_comb.nd rfl (Or.inl rfl) (pe_callA (i := 4) (leaf_held LV C_leaf) (hr.mono (by omega)) rfl (Or.inl rfl) (pa_cons (pv 2) (pa_cons (pv 3) pa_nil)))) (pss_cons (ps_if (pt_cmpR op_notN (pv 5) pe_non (nomark _)) (pss_one (ps_ret (pv 5))) pss_nil) (pss_cons (ps_set (i := 6) sc_comb.nd rfl (Or.inl rfl) (pe_tup (pa_cons (pv 1) (pa_cons (pe_callB (call_min2 rfl) (by rfl) T.min bt_min (pa_cons (pv 2) (pa_cons (pv 3) pa_nil))) (pa_cons (pe_callB (call_max2 rfl) (by rfl) T.max bt_max (pa_cons (pv 2) (pa_cons (pv 3) pa_nil))) pa_nil))))) (pss_cons (ps_if (pt_cmp (pc_dnotin (hu_of hr) (pv 6) (fldK (K := K) (pv 0))) rfl) (pss_one (ps_dput (hu_of hr) (fldK (K := K) (pv 0)) (pv 6) (pe_calM CL.cls C_split hr (by first | decide | omega) (pv 0) (pa_cons (pv 1) (pa_cons (pv 2) (pa_cons (pv 3) pa_nil)))) rfl)) pss_nil) (pss_one (ps_ret (pe_dget (hu_of hr) (fldK (K := K) (pv 0)) (pv 6) (fun _ _ => rfl))))))))), wq_enter h (fun ts g post h => ?l2) fun B ts g post hp => ?_⟩
    case l2 =>
      obtain ⟨_, _, _, _, rfl, _⟩ := h
      exact Nat.le_of_ble_eq_true rfl
    clear h
    obtain ⟨s, f, a, b, rfl, hg, ⟨k0, k1, k2, k3, k4, k5, k6⟩, hp⟩ := hp
    show wQ _ _ _ _ _ [.dat _, .dat _, .dat _, .dat _, .any, .any, .any] _ _ _ _
    try dsimp only [cxOf, Cx.wish, Cx.blk]
    refine wq_seq (wq_set (we_ixD (we_var rfl ⟨_, _, rfl, LV.get f, ?_⟩)))
    refine wq_seq (wq_set (we_callA rfl (leafS_get LV f) ?_))
    repeat' (wtm_at "z")
    refine ⟨a, b, rfl, ?_⟩
    cases hlf : f.leaf a b with
    | some c =>
      dsimp only [optT]
      repeat' (wtm_at "z")
      exact hp c g s hg k0 ((Ext.refl s).mono (Nat.zero_le _) (Nat.zero_le _)) (Fo.leaf_lt hlf k1 k2) (Fo.leaf_den hlf)
    | none =>
      dsimp only [optT]
      refine wq_seqM (fun g' es' => g' = g ∧ es' = [.dat (.raw (.ref s.a)), .dat (.str f.str), .dat (.int (a : Int)), .dat (.int (b : Int)), .dat (.raw (.ref (fa f))), .dat .non, .any]) ?_ ?_
      · repeat' (wtm_at "z")
        exact ⟨rfl, rfl⟩
      rintro g _ ⟨rfl, rfl⟩
      have hr1 : 1 ≤ r := by
        rcases Fo.leaf_none hlf with h | h
        · exact Nat.le_trans (rank_pos k0 h k1) k3
        · exact Nat.le_trans (rank_pos k0 h k2) k4
      have h2r : 2 ≤ 2 ^ r := Nat.le_trans (by decide : 2 ≤ 2 ^ 1) (Nat.pow_le_pow_right (by decide) hr1)
      refine wq_combTail hs CL (f := f) (a := a) (b := b) (n := 2 ^ r - 1) (r := 2 ^ r - 2) hg ?e0 ?e1 ?e2 ?e3 ?h6 k1 k2 (by omega) ?hspl ?fin
      case e0 => rfl
      case e1 => rfl
      case e2 => rfl
      case e3 => rfl
      case h6 => exact Nat.le_of_ble_eq_true rfl
      case hspl => exact fun g2 post2 q1 q2 => ⟨s, f, a, b, rfl, q1, ⟨k0, k1, k2, k3, k4, k5, k6, hlf⟩, q2⟩
      case fin =>
        intro c g' s' q1 q2 q3 q4 q5
        exact hp c g' s' q1 q2 (q3.mono (Nat.le_refl _) (by omega)) q4 q5
abbrev s_split : Stmt := inClass (topS 9) 5
abbrev N_split : List Str := ["self", "form", "first", "second", "one", "two", "without"]
theorem sc_split : FnScope ["self", "form", "first", "second", "one", "two", "without"] ["self", "form", "first", "second"] (defScope s_split) := ⟨rfl, rfl, rfl, by decide +kernel, rfl, by decide +kernel, by decide +kernel⟩
theorem ok_split0 {f0 : Addr} {fd0 : FuncData} {C : Addr} {E : List Int} (hs : HasStore R C E) (CL : ClsS K C) (r : Nat) (F : FunD K "_split" "Diagrams._split" (defArgs s_split) (defBody s_split) (defScope s_split) [] [] f0 fd0) (T : Bls mg) (C_combined : CalM P w K mg base (3 * r + 3) C "_combined" ["self", "form", "first", "second"] (spD K R [false, false, false, false] (p_comb hs r))) (C_make : CalM P w K mg base 1 C "make" ["self", "entry", "without", "there"] (spD K R [false, false, false, false] (p_make hs))) (C_split : CalM P w K mg base 0 C "_split" ["self", "form", "first", "second"] (spD K R [false, false, false, false] fun _ _ _ => False)) : FnOk P w K mg base CX0 (3 * r + 4) f0 fd0 ["self", "form", "first", "second"] (spD K R [false, false, false, false] (p_split0 hs r)) := by
  refine F.ok sc_split (spD_len fun ts g post h => ?len) (fun cdv A outer s H vs Q XE hr h => ?body)
  case len =>
    obtain ⟨_, _, _, _, _, rfl, _⟩ := h
    rfl
  case body =>
    refine ⟨_, PSs.nox (pss_cons (ps_set (i := 4) sc_split.nd rfl (Or.inl rfl) (pe_ix (ixK (K := K)) (fldK (K := K) (pv 0)) (pv 2) (fun _ _ => rfl))) (pss_cons (ps_set (i := 5) sc_split.nd rfl (Or.inl rfl) (pe_ifExp (pt_cmpR op_gt (pv 3) pe_int (nomark _)) (pe_ix (ixK (K := K)) (fldK (K := K) (pv 0)) (pv 3) (fun _ _ => rfl)) pe_non)) (pss_cons (ps_if (PW.pt (pw_or (pt_cmpR op_isN (pv 4) pe_non (nomark _)) (pw_or1 (PW.pt (pw_and (pt_cmpR op_notN (pv 5) pe_non (nomark _)) (pw_and1 (pt_cmpR op_lt (pe_ix (ixK (K := K)) (pv 5) pe_int (fun _ _ => rfl)) (pe_ix (ixK (K := K)) (pv 4) pe_int (fun _ _ => rfl)) (nomark _)))))))) (pss_one (ps_ret (pe_calM CL.cls C_split hr (by first | decide | omega) (pv 0) (pa_cons (pv 1) (pa_cons (pv 3) (pa_cons (pv 2) pa_nil)))))) pss_nil) (pss_cons (ps_if (PW.pt (pw_or (pt_cmpR op_isN (pv 5) pe_non (nomark _)) (pw_or1 (pt_cmpR op_lt (pe_ix (ixK (K := K)) (pv 4) pe_int (fun _ _ => rfl)) (pe_ix (ixK (K := K)) (pv 5) pe_int (fun _ _ => rfl)) (nomark _))))) (pss_one (ps_set (i := 5) sc_split.nd rfl (Or.inl rfl) (pe_tup (pa_cons (pe_ix (ixK (K := K)) (pv 4) pe_int (fun _ _ => rfl)) (pa_cons (pv 3) (pa_cons (pv 3) pa_nil)))))) pss_nil) (pss_cons (ps_set (i := 6) sc_split.nd rfl (Or.inl rfl) (pe_calM CL.cls C_combined hr (by first | decide | omega) (pv 0) (pa_cons (pv 1) (pa_cons (pe_ix (ixK (K := K)) (pv 4) pe_int (fun _ _ => rfl)) (pa_cons (pe_ix (ixK (K := K)) (pv 5) pe_int (fun _ _ => rfl)) pa_nil))))) (pss_one (ps_ret (pe_calM CL.cls C_make hr (by first | decide | omega) (pv 0) (pa_cons (pe_ix (ixK (K := K)) (pv 4) pe_int (fun _ _ => rfl)) (pa_cons (pv 6) (pa_cons (pe_calM CL.cls C_combined hr (by first | decide | omega) (pv 0) (pa_cons (pv 1) (pa_cons (pe_ix (ixK (K := K)) (pv 4) pe_int (fun _ _ => rfl)) (pa_cons (pe_ix (ixK (K := K)) (pv 5) pe_int (fun _ _ => rfl)) pa_nil)))) pa_nil))))))))))), wq_enter h (fun ts g post h => ?l2) fun B ts g post hp => ?_⟩
    case l2 =>
      obtain ⟨_, _, _, _, _, rfl, _⟩ := h
      exact Nat.le_of_ble_eq_true rfl
    clear h
    obtain ⟨s, f, a, b, n, rfl, hg, ⟨k0, k1, k2, k3, k5, k6, hn, hb⟩, hp⟩ := hp
    show wQ _ _ _ _ _ [.dat _, .dat _, .dat _, .dat _, .any, .any, .any] _ _ _ _
    try dsimp only [cxOf, Cx.wish, Cx.blk]
    have g0 := k0.good
    refine wq_seqI (fun t => t = .tup [.int n.e, .int (n.w : Int), .int (n.t : Int)]) ?_ ?_
    · exact we_nodeIx hs CL hg rfl (we_var rfl ⟨a, rfl, rfl, k1, rfl, rfl, by unfold nodeT; rw [hn]; rfl⟩)
    rintro _ rfl
    refine wq_seqI (fun t => t = nodeT s.ns b) ?_ ?_
    · refine we_if (wt_test (we_op (we_var rfl (we_int (wr_bl0 ⟨_, rfl, w_iteD (fun h => ?_) (fun h => ?_)⟩)))))
      · exact we_nodeIx hs CL hg rfl (we_var rfl ⟨b, rfl, rfl, k2, rfl, rfl, rfl⟩)
      · exact we_non ⟨rfl, rfl, by unfold nodeT; rw [node_small (by omega)]⟩
    rintro _ rfl
    -- no turn
    refine wq_seqM (fun g' es' => g' = g ∧ es' = [.dat (.raw (.ref s.a)), .dat (.str f.str), .dat (.int (a : Int)), .dat (.int (b : Int)), .dat (.tup [.int n.e, .int (n.w : Int), .int (n.t : Int)]), .dat (nodeT s.ns b), .any]) ?_ ?_
    · cases hm : node s.ns b with
      | none =>
        have e : nodeT s.ns b = .non := by unfold nodeT; rw [hm]
        rw [e]
        repeat' (wtm_at "z")
        exact ⟨rfl, rfl⟩
      | some m =>
        have e : nodeT s.ns b = .tup [.int m.e, .int (m.w : Int), .int (m.t : Int)] := by unfold nodeT; rw [hm]; rfl
        have hb1 := hb m hm
        rw [e]
        repeat' (wtm_at "z")
        · exfalso
          omega
        · exact ⟨rfl, rfl⟩
    rintro g _ ⟨rfl, rfl⟩
    refine wq_seqM (fun g' es' => g' = g ∧ ∃ w2 t2 : Nat, (w2 < s.ns.length + 2 ∧ t2 < s.ns.length + 2 ∧ Top s.ns n.e w2 ∧ Top s.ns n.e t2 ∧ ∀ σ, den s.ns b σ = if σ n.e then den s.ns t2 σ else den s.ns w2 σ) ∧ es' = [.dat (.raw (.ref s.a)), .dat (.str f.str), .dat (.int (a : Int)), .dat (.int (b : Int)), .dat (.tup [.int n.e, .int (n.w : Int), .int (n.t : Int)]), .dat (.tup [.int n.e, .int (w2 : Int), .int (t2 : Int)]), .any]) ?_ ?_
    · cases hm : node s.ns b with
      | none =>
        have e : nodeT s.ns b = .non := by unfold nodeT; rw [hm]
        have tp : Top s.ns n.e b := fun m q => by rw [hm] at q; cases q
        rw [e]
        repeat' (wtm_at "z")
        exact ⟨rfl, b, b, ⟨k2, k2, tp, tp, fun σ => by split <;> rfl⟩, rfl⟩
      | some m =>
        have e : nodeT s.ns b = .tup [.int m.e, .int (m.w : Int), .int (m.t : Int)] := by unfold nodeT; rw [hm]; rfl
        have hb1 := hb m hm
        rw [e]
        repeat' (wtm_at "z")
        · have tp : Top s.ns n.e b := fun m' q => by
            rw [hm] at q
            cases q
            assumption
          exact ⟨rfl, b, b, ⟨k2, k2, tp, tp, fun σ => by split <;> rfl⟩, rfl⟩
        · have em : m.e = n.e := by omega
          obtain ⟨q1, q2, _⟩ := g0.kids hm
          exact ⟨rfl, m.w, m.t, ⟨by omega, by omega, em ▸ g0.topw hm, em ▸ g0.topt hm, fun σ => em ▸ den_node g0 hm⟩, by rw [em] <;> rfl⟩
    rintro g _ ⟨rfl, w2, t2, ⟨l1, l2, tw, tt, db⟩, rfl⟩
    obtain ⟨q1, q2, _⟩ := g0.kids hn
    have p2 : 2 ^ (r + 1) = 2 ^ r + 2 ^ r := by rw [Nat.pow_succ]; omega
    have p1 : 1 ≤ 2 ^ r := Nat.one_le_two_pow
    refine wq_seq (wq_set (we_meth hs (fun _ _ _ => rfl) (we_var rfl ⟨s, rfl, hg, ?_⟩)))
    repeat' (wtm_at "z")
    have ra := rank_top k0 hn (g0.topw hn)
    have rb := rank_top k0 hn (g0.topt hn)
    have rc := rank_top k0 hn tw
    have rd := rank_top k0 hn tt
    refine ⟨s, f, n.w, w2, rfl, hg, ⟨k0, by omega, l1, by omega, by omega, by omega, by omega⟩, fun c1 g1 s1 h1 o1 x1 lc1 d1 => ?_⟩
    have e1 := x1.len
    have e1r := x1.rs
    refine wq_ret (we_meth hs (fun _ _ _ => rfl) (we_var rfl ⟨s1, by rw [x1.a], h1, ?_⟩))
    repeat' (wtm_at "z")
    refine we_meth hs (fun _ _ _ => rfl) (we_var rfl ⟨s1, by rw [x1.a], h1, ?_⟩)
    repeat' (wtm_at "z")
    refine ⟨s1, f, n.t, t2, by rw [x1.a], h1, ⟨o1, by omega, by omega, by rw [rank_ext x1 (by omega)]; omega, by rw [rank_ext x1 (by omega)]; omega, by omega, by omega⟩, fun c2 g2 s2 h2 o2 x2 lc2 d2 => ?_⟩
    have e2 := x2.len
    have e2r := x2.rs
    repeat' (wtm_at "z")
    have D1 : ∀ σ, den s2.ns c1 σ = f.op (den s.ns n.w σ) (den s.ns w2 σ) := fun σ => (x2.den o2 lc1).trans (d1 σ)
    have D2 : ∀ σ, den s2.ns c2 σ = f.op (den s.ns n.t σ) (den s.ns t2 σ) := fun σ => by
      rw [d2 σ, x1.den o1 (by omega), x1.den o1 (by omega)]
    refine ⟨s2, n.e, c1, c2, by rw [x2.a, x1.a], h2, ⟨o2, k0.ent n (List.mem_of_getElem? (node_lt hn).2.2), by omega, lc2, ?_, ?_, by omega⟩, fun i g3 s3 h3 o3 x3 li d3 => ?_⟩
    · refine top_sem o2.good (by omega) fun y hy σ b => ?_
      rw [D1, D1, den_top_put g0 (by omega) (g0.topw hn) hy, den_top_put g0 l1 tw hy]
    · refine top_sem o2.good lc2 fun y hy σ b => ?_
      rw [D2, D2, den_top_put g0 (by omega) (g0.topt hn) hy, den_top_put g0 l2 tt hy]
    · refine hp i g3 s3 h3 o3 (((x1.trans x2).trans x3).mono (by omega) (by omega)) li fun σ => ?_
      rw [d3, D1, D2, den_node g0 hn, db]
      split <;> rfl
theorem ok_splitS {f0 : Addr} {fd0 : FuncData} {C : Addr} {E : List Int} (hs : HasStore R C E) (CL : ClsS K C) (r : Nat) (F : FunD K "_split" "Diagrams._split" (defArgs s_split) (defBody s_split) (defScope s_split) [] [] f0 fd0) (T : Bls mg) (C_combined : CalM P w K mg base (3 * r + 3) C "_combined" ["self", "form", "first", "second"] (spD K R [false, false, false, false] (p_comb hs r))) (C_make : CalM P w K mg base 1 C "make" ["self", "entry", "without", "there"] (spD K R [false, false, false, false] (p_make hs))) (C_split : CalM P w K mg base (3 * r + 4) C "_split" ["self", "form", "first", "second"] (spD K R [false, false, false, false] (p_split0 hs r))) : FnOk P w K mg base CX0 (3 * r + 5) f0 fd0 ["self", "form", "first", "second"] (spD K R [false, false, false, false] (p_splitS hs r)) := by
  refine F.ok sc_split (spD_len fun ts g post h => ?len) (fun cdv A outer s H vs Q XE hr h => ?body)
  case len =>
    obtain ⟨_, _, _, _, _, rfl, _⟩ := h
    rfl
  case body =>
    refine ⟨_, PSs.nox (pss_cons (ps_set (i := 4) sc_split.nd rfl (Or.inl rfl) (pe_ix (ixK (K := K)) (fldK (K := K) (pv 0)) (pv 2) (fun _ _ => rfl))) (pss_cons (ps_set (i := 5) sc_split.nd rfl (Or.inl rfl) (pe_ifExp (pt_cmpR op_gt (pv 3) pe_int (nomark _)) (pe_ix (ixK (K := K)) (fldK (K := K) (pv 0)) (pv 3) (fun _ _ => rfl)) pe_non)) (pss_cons (ps_if (PW.pt (pw_or (pt_cmpR op_isN (pv 4) pe_non (nomark _)) (pw_or1 (PW.pt (pw_and (pt_cmpR op_notN (pv 5) pe_non (nomark _)) (pw_and1 (pt_cmpR op_lt (pe_ix (ixK (K := K)) (pv 5) pe_int (fun _ _ => rfl)) (pe_ix (ixK (K := K)) (pv 4) pe_int (fun _ _ => rfl)) (nomark _)))))))) (pss_one (ps_ret (pe_calM CL.cls C_split hr (by first | decide | omega) (pv 0) (pa_cons (pv 1) (pa_cons (pv 3) (pa_cons (pv 2) pa_nil)))))) pss_nil) (pss_cons (ps_if (PW.pt (pw_or (pt_cmpR op_isN (pv 5) pe_non (nomark _)) (pw_or1 (pt_cmpR op_lt (pe_ix (ixK (K := K)) (pv 4) pe_int (fun _ _ => rfl)) (pe_ix (ixK (K := K)) (pv 5) pe_int (fun _ _ => rfl)) (nomark _))))) (pss_one (ps_set (i := 5) sc_split.nd rfl (Or.inl rfl) (pe_tup (pa_cons (pe_ix (ixK (K := K)) (pv 4) pe_int (fun _ _ => rfl)) (pa_cons (pv 3) (pa_cons (pv 3) pa_nil)))))) pss_nil) (pss_cons (ps_set (i := 6) sc_split.nd rfl (Or.inl rfl) (pe_calM CL.cls C_combined hr (by first | decide | omega) (pv 0) (pa_cons (pv 1) (pa_cons (pe_ix (ixK (K := K)) (pv 4) pe_int (fun _ _ => rfl)) (pa_cons (pe_ix (ixK (K := K)) (pv 5) pe_int (fun _ _ => rfl)) pa_nil))))) (pss_one (ps_ret (pe_calM CL.cls C_make hr (by first | decide | omega) (pv 0) (pa_cons (pe_ix (ixK (K := K)) (pv 4) pe_int (fun _ _ => rfl)) (pa_cons (pv 6) (pa_cons (pe_calM CL.cls C_combined hr (by first | decide | omega) (pv 0) (pa_cons (pv 1) (pa_cons (pe_ix (ixK (K := K)) (pv 4) pe_int (fun _ _ => rfl)) (pa_cons (pe_ix (ixK (K := K)) (pv 5) pe_int (fun _ _ => rfl)) pa_nil)))) pa_nil))))))))))), wq_enter h (fun ts g post h => ?l2) fun B ts g post hp => ?_⟩
    case l2 =>
      obtain ⟨_, _, _, _, _, rfl, _⟩ := h
      exact Nat.le_of_ble_eq_true rfl
    clear h
    obtain ⟨s, f, a, b, m, rfl, hg, ⟨k0, k1, k2, k3, k5, k6, hm, hb⟩, hp⟩ := hp
    show wQ _ _ _ _ _ [.dat _, .dat _, .dat _, .dat _, .any, .any, .any] _ _ _ _
    try dsimp only [cxOf, Cx.wish, Cx.blk]
    have g0 := k0.good
    have hb1 := (node_lt hm).1
    refine wq_seqI (fun t => t = nodeT s.ns a) ?_ ?_
    · exact we_nodeIx hs CL hg rfl (we_var rfl ⟨a, rfl, rfl, k1, rfl, rfl, rfl⟩)
    rintro _ rfl
    refine wq_seqI (fun t => t = .tup [.int m.e, .int (m.w : Int), .int (m.t : Int)]) ?_ ?_
    · refine we_if (wt_test (we_op (we_var rfl (we_int (wr_bl0 ⟨_, rfl, w_iteD (fun h => ?_) (fun h => ?_)⟩)))))
      · exact we_nodeIx hs CL hg rfl (we_var rfl ⟨b, rfl, rfl, k2, rfl, rfl, by unfold nodeT; rw [hm]; rfl⟩)
      · exfalso
        omega
    rintro _ rfl
    have fin : wE K R B (tMeth C "_split" (spD K R [false, false, false, false] (p_split0 hs r)) [] E0 (tVar 0) (tCons (tVar 1) (tCons (tVar 3) (tCons (tVar 2) tNil)))) g
        [.dat (.raw (.ref s.a)), .dat (.str f.str), .dat (.int (a : Int)), .dat (.int (b : Int)), .dat (nodeT s.ns a), .dat (.tup [.int m.e, .int (m.w : Int), .int (m.t : Int)]), .any] (fun t g' _ => post t g') := by
      refine we_meth hs (fun _ _ _ => rfl) (we_var rfl ⟨s, rfl, hg, ?_⟩)
      repeat' (wtm_at "z")
      refine ⟨s, f, b, a, m, rfl, hg, ⟨k0, k2, k1, k3, k5, k6, hm, fun n q => Int.le_of_lt (hb n q)⟩, fun c g' s' h1 h2 h3 h4 h5 => ?_⟩
      exact hp c g' s' h1 h2 h3 h4 fun σ => (h5 σ).trans (f.comm _ _)
    cases hn : node s.ns a with
    | none =>
      have e : nodeT s.ns a = .non := by unfold nodeT; rw [hn]
      rw [e] at fin ⊢
      refine wq_seq (wq_if ?_)
      repeat' (wtm_at "z")
      all_goals first
        | exact fin
        | (exfalso; omega)
    | some n =>
      have e : nodeT s.ns a = .tup [.int n.e, .int (n.w : Int), .int (n.t : Int)] := by unfold nodeT; rw [hn]; rfl
      have hb2 := hb n hn
      rw [e] at fin ⊢
      refine wq_seq (wq_if ?_)
      repeat' (wtm_at "z")
      all_goals first
        | exact fin
        | (exfalso; omega)
theorem all_comb {C : Addr} {E : List Int} (hs : HasStore R C E) (CL : ClsS K C) {aL : Addr} {fa : Fo → Addr} (LV : Leaves w K mg aL fa) (C_leaf : ∀ f : Fo, Cal P w K mg base 1 f.name ["first", "second"] (spD K R [false, false] (p_leaf R f))) (Ds : DfnM K C "_split" "Diagrams._split" s_split) (Dc : DfnM K C "_combined" "Diagrams._combined" s_comb) (T : Bls mg) (C_make : CalM P w K mg base 1 C "make" ["self", "entry", "without", "there"] (spD K R [false, false, false, false] (p_make hs))) :
    ∀ r : Nat, CalM P w K mg base (3 * r + 3) C "_combined" ["self", "form", "first", "second"] (spD K R [false, false, false, false] (p_comb hs r)) := by
  obtain ⟨fs, fds, Fs, ms⟩ := Ds.ex
  have bs : Binds K fds ["self", "form", "first", "second"] [] := Fs.bindsN fun _ _ _ _ _ _ us hl => match us, hl with | [_, _, _, _], _ => rfl
  intro r
  induction r with
  | zero =>
    refine c_comb hs CL LV C_leaf 0 Dc T ⟨fs, fds, ⟨fun vs H Q X h => ?_, fun A outer s H args us vs Q X hr he hb hv h => ?_⟩, ms, bs⟩
    all_goals
      exfalso
      obtain ⟨F, ts, g, post, i, args, ⟨s, f, a, b, rfl, hg, ⟨k0, k1, k2, k3, k4, k5, k6, hlf⟩, hp⟩, cont⟩ := h
      rcases Fo.leaf_none hlf with h | h
      · have := rank_pos k0 h k1
        omega
      · have := rank_pos k0 h k2
        omega
  | succ r ih =>
    have Z : CalM P w K mg base 0 C "_split" ["self", "form", "first", "second"] (spD K R [false, false, false, false] fun _ _ _ => False) :=
      ⟨fs, fds, ⟨fun vs H Q X ⟨_, _, _, _, _, _, h, _⟩ => h.elim, fun _ _ _ _ _ _ _ _ _ _ _ _ _ ⟨_, _, _, _, _, _, h, _⟩ => h.elim⟩, ms, bs⟩
    have S0 := ok_split0 hs CL r Fs T ih C_make Z
    have S1 := ok_splitS hs CL r Fs T ih C_make ⟨fs, fds, S0, ms, bs⟩
    exact c_comb hs CL LV C_leaf (r + 1) Dc T ⟨fs, fds, fnok_or (S0.mono (by omega)) S1 (split_or hs r), ms, bs⟩
abbrev s_node : Stmt := inClass (topS 9) 3
abbrev N_node : List Str := ["self", "condition"]
theorem sc_node : FnScope ["self", "condition"] ["self", "condition"] (defScope s_node) := ⟨rfl, rfl, rfl, by decide +kernel, rfl, by decide +kernel, by decide +kernel⟩
theorem c_node {C : Addr} {E : List Int} (hs : HasStore R C E) (CL : ClsS K C) (D : DfnM K C "node" "Diagrams.node" s_node) (T : Bls mg)  : CalM P w K mg base 1 C "node" ["self", "condition"] (spD K R [false, false] (p_node hs)) := by
  obtain ⟨f, fd, F, hm⟩ := D.ex
  refine ⟨f, fd, F.ok sc_node (spD_len fun ts g post h => ?len) (fun cdv A outer s H vs Q XE hr h => ?body), hm, F.bindsN fun _ _ _ _ _ _ us hl => match us, hl with | [_, _], _ => rfl⟩
  case len =>
    obtain ⟨_, _, rfl, _⟩ := h
    rfl
  case body =>
    refine ⟨_, PSs.nox (pss_one (ps_ret (pe_ix (ixK (K := K)) (fldK (K := K) (pv 0)) (pv 1) (fun _ _ => rfl)))), wq_enter h (fun ts g post h => ?l2) fun B ts g post hp => ?_⟩
    case l2 =>
      obtain ⟨_, _, rfl, _⟩ := h
      exact Nat.le_of_ble_eq_true rfl
    clear h
    obtain ⟨s, c, rfl, hg, hc, hp⟩ := hp
    show wQ _ _ _ _ _ [.dat _, .dat _] _ _ _ _
    try dsimp only [cxOf, Cx.wish, Cx.blk]
    exact wq_ret (we_nodeIx hs CL hg rfl (we_var rfl ⟨c, rfl, rfl, hc, hp⟩))
abbrev s_there : Stmt := inClass (topS 9) 2
abbrev N_there : List Str := ["self", "entry"]
theorem sc_there : FnScope ["self", "entry"] ["self", "entry"] (defScope s_there) := ⟨rfl, rfl, rfl, by decide +kernel, rfl, by decide +kernel, by decide +kernel⟩
theorem c_there {C : Addr} {E : List Int} (hs : HasStore R C E) (CL : ClsS K C) (D : DfnM K C "there" "Diagrams.there" s_there) (T : Bls mg) (C_make : CalM P w K mg base 1 C "make" ["self", "entry", "without", "there"] (spD K R [false, false, false, false] (p_make hs))) (hN : ∃ t, mg "NEVER" = some (.int 0 t)) (hA : ∃ t, mg "ALWAYS" = some (.int 1 t)) : CalM P w K mg base 2 C "there" ["self", "entry"] (spD K R [false, false] (p_there hs)) := by
  obtain ⟨tN, gN⟩ := hN
  obtain ⟨tA, gA⟩ := hA
  obtain ⟨f, fd, F, hm⟩ := D.ex
  refine ⟨f, fd, F.ok sc_there (spD_len fun ts g post h => ?len) (fun cdv A outer s H vs Q XE hr h => ?body), hm, F.bindsN fun _ _ _ _ _ _ us hl => match us, hl with | [_, _], _ => rfl⟩
  case len =>
    obtain ⟨_, _, rfl, _⟩ := h
    rfl
  case body =>
    refine ⟨_, PSs.nox (pss_one (ps_ret (pe_calM CL.cls C_make hr (by first | decide | omega) (pv 0) (pa_cons (pv 1) (pa_cons (pe_glob (v := .int 0) (by rfl) gN ⟨_, rfl⟩) (pa_cons (pe_glob (v := .int 1) (by rfl) gA ⟨_, rfl⟩) pa_nil)))))), wq_enter h (fun ts g post h => ?l2) fun B ts g post hp => ?_⟩
    case l2 =>
      obtain ⟨_, _, rfl, _⟩ := h
      exact Nat.le_of_ble_eq_true rfl
    clear h
    obtain ⟨s, e, rfl, hg, ⟨k0, he, hl⟩, hp⟩ := hp
    show wQ _ _ _ _ _ [.dat _, .dat _] _ _ _ _
    try dsimp only [cxOf, Cx.wish, Cx.blk]
    refine wq_ret (we_meth hs (fun _ _ _ => rfl) (we_var rfl ⟨s, rfl, hg, ?_⟩))
    repeat' (wtm_at "z")
    refine ⟨s, e, 0, 1, rfl, hg, ⟨k0, he, by omega, by omega, fun m q => (by rw [node_small (by decide)] at q; cases q), fun m q => (by rw [node_small (by decide)] at q; cases q), hl⟩, fun i g' s' h1 h2 h3 h4 h5 => hp i g' s' h1 h2 h3 h4 fun σ => ?_⟩
    rw [h5, den_0, den_1]
    cases σ e <;> rfl
abbrev s_conj : Stmt := inClass (topS 9) 6
abbrev N_conj : List Str := ["self", "first", "second"]
theorem sc_conj : FnScope ["self", "first", "second"] ["self", "first", "second"] (defScope s_conj) := ⟨rfl, rfl, rfl, by decide +kernel, rfl, by decide +kernel, by decide +kernel⟩
theorem c_conj {C : Addr} {E : List Int} (hs : HasStore R C E) (CL : ClsS K C) (r : Nat) (D : DfnM K C "conjunction" "Diagrams.conjunction" s_conj) (T : Bls mg) (C_combined : CalM P w K mg base (3 * r + 3) C "_combined" ["self", "form", "first", "second"] (spD K R [false, false, false, false] (p_comb hs r))) : CalM P w K mg base (3 * r + 4) C "conjunction" ["self", "first", "second"] (spD K R [false, false, false] (p_bin hs .and r)) := by
  obtain ⟨f, fd, F, hm⟩ := D.ex
  refine ⟨f, fd, F.ok sc_conj (spD_len fun ts g post h => ?len) (fun cdv A outer s H vs Q XE hr h => ?body), hm, F.bindsN fun _ _ _ _ _ _ us hl => match us, hl with | [_, _, _], _ => rfl⟩
  case len =>
    obtain ⟨_, _, _, rfl, _⟩ := h
    rfl
  case body =>
    refine ⟨_, PSs.nox (pss_one (ps_ret (pe_calM CL.cls C_combined hr (by first | decide | omega) (pv 0) (pa_cons pe_str (pa_cons (pv 1) (pa_cons (pv 2) pa_nil)))))), wq_enter h (fun ts g post h => ?l2) fun B ts g post hp => ?_⟩
    case l2 =>
      obtain ⟨_, _, _, rfl, _⟩ := h
      exact Nat.le_of_ble_eq_true rfl
    clear h
    obtain ⟨s, a, b, rfl, hg, k, hp⟩ := hp
    show wQ _ _ _ _ _ [.dat _, .dat _, .dat _] _ _ _ _
    try dsimp only [cxOf, Cx.wish, Cx.blk]
    refine wq_ret (we_meth hs (fun _ _ _ => rfl) (we_var rfl ⟨s, rfl, hg, ?_⟩))
    repeat' (wtm_at "z")
    exact ⟨s, .and, a, b, rfl, hg, k, hp⟩
abbrev s_disj : Stmt := inClass (topS 9) 7
abbrev N_disj : List Str := ["self", "first", "second"]
theorem sc_disj : FnScope ["self", "first", "second"] ["self", "first", "second"] (defScope s_disj) := ⟨rfl, rfl, rfl, by decide +kernel, rfl, by decide +kernel, by decide +kernel⟩
theorem c_disj {C : Addr} {E : List Int} (hs : HasStore R C E) (CL : ClsS K C) (r : Nat) (D : DfnM K C "disjunction" "Diagrams.disjunction" s_disj) (T : Bls mg) (C_combined : CalM P w K mg base (3 * r + 3) C "_combined" ["self", "form", "first", "second"] (spD K R [false, false, false, false] (p_comb hs r))) : CalM P w K mg base (3 * r + 4) C "disjunction" ["self", "first", "second"] (spD K R [false, false, false] (p_bin hs .or r)) := by
  obtain ⟨f, fd, F, hm⟩ := D.ex
  refine ⟨f, fd, F.ok sc_disj (spD_len fun ts g post h => ?len) (fun cdv A outer s H vs Q XE hr h => ?body), hm, F.bindsN fun _ _ _ _ _ _ us hl => match us, hl with | [_, _, _], _ => rfl⟩
  case len =>
    obtain ⟨_, _, _, rfl, _⟩ := h
    rfl
  case body =>
    refine ⟨_, PSs.nox (pss_one (ps_ret (pe_calM CL.cls C_combined hr (by first | decide | omega) (pv 0) (pa_cons pe_str (pa_cons (pv 1) (pa_cons (pv 2) pa_nil)))))), wq_enter h (fun ts g post h => ?l2) fun B ts g post hp => ?_⟩
    case l2 =>
      obtain ⟨_, _, _, rfl, _⟩ := h
      exact Nat.le_of_ble_eq_true rfl
    clear h
    obtain ⟨s, a, b, rfl, hg, k, hp⟩ := hp
    show wQ _ _ _ _ _ [.dat _, .dat _, .dat _] _ _ _ _
    try dsimp only [cxOf, Cx.wish, Cx.blk]
    refine wq_ret (we_meth hs (fun _ _ _ => rfl) (we_var rfl ⟨s, rfl, hg, ?_⟩))
    repeat' (wtm_at "z")
    exact ⟨s, .or, a, b, rfl, hg, k, hp⟩
abbrev s_differs : Stmt := inClass (topS 9) 8
abbrev N_differs : List Str := ["self", "first", "second"]
theorem sc_differs : FnScope ["self", "first", "second"] ["self", "first", "second"] (defScope s_differs) := ⟨rfl, rfl, rfl, by decide +kernel, rfl, by decide +kernel, by decide +kernel⟩
theorem c_differs {C : Addr} {E : List Int} (hs : HasStore R C E) (CL : ClsS K C) (r : Nat) (D : DfnM K C "differs" "Diagrams.differs" s_differs) (T : Bls mg) (C_combined : CalM P w K mg base (3 * r + 3) C "_combined" ["self", "form", "first", "second"] (spD K R [false, false, false, false] (p_comb hs r))) : CalM P w K mg base (3 * r + 4) C "differs" ["self", "first", "second"] (spD K R [false, false, false] (p_bin hs .dif r)) := by
  obtain ⟨f, fd, F, hm⟩ := D.ex
  refine ⟨f, fd, F.ok sc_differs (spD_len fun ts g post h => ?len) (fun cdv A outer s H vs Q XE hr h => ?body), hm, F.bindsN fun _ _ _ _ _ _ us hl => match us, hl with | [_, _, _], _ => rfl⟩
  case len =>
    obtain ⟨_, _, _, rfl, _⟩ := h
    rfl
  case body =>
    refine ⟨_, PSs.nox (pss_one (ps_ret (pe_calM CL.cls C_combined hr (by first | decide | omega) (pv 0) (pa_cons pe_str (pa_cons (pv 1) (pa_cons (pv 2) pa_nil)))))), wq_enter h (fun ts g post h => ?l2) fun B ts g post hp => ?_⟩
    case l2 =>
      obtain ⟨_, _, _, rfl, _⟩ := h
      exact Nat.le_of_ble_eq_true rfl
    clear h
    obtain ⟨s, a, b, rfl, hg, k, hp⟩ := hp
    show wQ _ _ _ _ _ [.dat _, .dat _, .dat _] _ _ _ _
    try dsimp only [cxOf, Cx.wish, Cx.blk]
    refine wq_ret (we_meth hs (fun _ _ _ => rfl) (we_var rfl ⟨s, rfl, hg, ?_⟩))
    repeat' (wtm_at "z")
    exact ⟨s, .dif, a, b, rfl, hg, k, hp⟩
abbrev s_neg : Stmt := inClass (topS 9) 9
abbrev N_neg : List Str := ["self", "condition"]
theorem sc_neg : FnScope ["self", "condition"] ["self", "condition"] (defScope s_neg) := ⟨rfl, rfl, rfl, by decide +kernel, rfl, by decide +kernel, by decide +kernel⟩
theorem c_neg {C : Addr} {E : List Int} (hs : HasStore R C E) (CL : ClsS K C) (r : Nat) (D : DfnM K C "negation" "Diagrams.negation" s_neg) (T : Bls mg) (C_differs : CalM P w K mg base (3 * r + 4) C "differs" ["self", "first", "second"] (spD K R [false, false, false] (p_bin hs .dif r))) (hN : ∃ t, mg "NEVER" = some (.int 0 t)) (hA : ∃ t, mg "ALWAYS" = some (.int 1 t)) : CalM P w K mg base (3 * r + 5) C "negation" ["self", "condition"] (spD K R [false, false] (p_neg hs r)) := by
  obtain ⟨tN, gN⟩ := hN
  obtain ⟨tA, gA⟩ := hA
  obtain ⟨f, fd, F, hm⟩ := D.ex
  refine ⟨f, fd, F.ok sc_neg (spD_len fun ts g post h => ?len) (fun cdv A outer s H vs Q XE hr h => ?body), hm, F.bindsN fun _ _ _ _ _ _ us hl => match us, hl with | [_, _], _ => rfl⟩
  case len =>
    obtain ⟨_, _, rfl, _⟩ := h
    rfl
  case body =>
    refine ⟨_, PSs.nox (pss_one (ps_ret (pe_calM CL.cls C_differs hr (by first | decide | omega) (pv 0) (pa_cons (pv 1) (pa_cons (pe_glob (v := .int 1) (by rfl) gA ⟨_, rfl⟩) pa_nil))))), wq_enter h (fun ts g post h => ?l2) fun B ts g post hp => ?_⟩
    case l2 =>
      obtain ⟨_, _, rfl, _⟩ := h
      exact Nat.le_of_ble_eq_true rfl
    clear h
    obtain ⟨s, a, rfl, hg, ⟨k0, k1, k3, k5, k6⟩, hp⟩ := hp
    show wQ _ _ _ _ _ [.dat _, .dat _] _ _ _ _
    try dsimp only [cxOf, Cx.wish, Cx.blk]
    refine wq_ret (we_meth hs (fun _ _ _ => rfl) (we_var rfl ⟨s, rfl, hg, ?_⟩))
    repeat' (wtm_at "z")
    refine ⟨s, a, 1, rfl, hg, ⟨k0, k1, by omega, k3, by unfold rank; rw [node_small (by decide)]; exact Nat.zero_le _, k5, k6⟩, fun c g' s' h1 h2 h3 h4 h5 => hp c g' s' h1 h2 h3 h4 fun σ => ?_⟩
    rw [h5, den_1]
    cases den s.ns a σ <;> rfl
abbrev s_init : Stmt := inClass (topS 9) 0
abbrev N_init : List Str := ["self"]
theorem sc_init : FnScope ["self"] ["self"] (defScope s_init) := ⟨rfl, rfl, rfl, by decide +kernel, rfl, by decide +kernel, by decide +kernel⟩
theorem ok_init {C f : Addr} {fd : FuncData} (CL : ClsS K C) (F : FunD K "__init__" "Diagrams.__init__" (defArgs s_init) (defBody s_init) (defScope s_init) [] [] f fd) : FnOk P w K mg base CX0 1 f fd ["self"] (spInit C) := by
  refine F.ok sc_init (fun vs H Q XE h => ?len) (fun cdv A outer s H vs Q XE hr h => ?body)
  case len =>
    obtain ⟨_, _, rfl, _⟩ := h
    rfl
  refine ⟨_, PSs.nox (pss_cons (ps_fld (pv 0) (pe_lst (pa_cons pe_non (pa_cons pe_non pa_nil))) rfl) (pss_cons (ps_fld (pv 0) pe_dnewT rfl) (pss_one (ps_fld (pv 0) pe_dnewT rfl)))), ?_⟩
  obtain ⟨a, dx, rfl, ha, hQ⟩ := h
  have na : ∀ {b : Addr} {H1 : Hp} {o : HO}, H1 a = some o → H1 b = none → a ≠ b := fun e n z => by
    rw [z, n] at e
    cases e
  refine ⟨Nat.le_of_ble_eq_true rfl, fun b hb => ⟨_, rfl, a, C, dx, [], rfl, (upd_ne (na ha hb)).trans ha, CL.cls, CL.nodes, by decide, ?_⟩⟩
  refine fun c hc => ⟨_, rfl, a, C, dx, _, rfl, (upd_ne (na upd_same hc)).trans upd_same, CL.cls, CL.numbers, Nat.lt_of_le_of_lt (Nat.le_refl 1) (by decide), ?_⟩
  refine fun d hd => ⟨_, rfl, a, C, dx, _, rfl, (upd_ne (na upd_same hd)).trans upd_same, CL.cls, CL.results, Nat.lt_of_le_of_lt (Nat.le_refl 2) (by decide), ?_⟩
  have cb : b ≠ c := fun z => by
    rw [← z, upd_ne (Ne.symm (na ha hb)), upd_same] at hc
    cases hc
  have hc1 : H c = none := by
    rw [upd_ne (Ne.symm (na upd_same hc)), upd_ne (Ne.symm cb)] at hc
    exact hc
  have dc : c ≠ d := fun z => by
    rw [← z, upd_ne (Ne.symm (na upd_same hc)), upd_same] at hd
    cases hd
  have da := na (H1 := upd _ a _) upd_same hd
  have db : b ≠ d := fun z => by
    rw [← z, upd_ne (Ne.symm (na ha hb)), upd_ne cb, upd_ne (Ne.symm (na ha hb)), upd_same] at hd
    cases hd
  have hd1 : H d = none := by
    rw [upd_ne (Ne.symm da), upd_ne (Ne.symm dc), upd_ne (Ne.symm da), upd_ne (Ne.symm db)] at hd
    exact hd
  exact hQ b c d hb hc1 hd1 cb db dc
abbrev s_parts : Stmt := inClass (topS 9) 14
abbrev N_parts : List Str := ["self", "condition", "part"]
theorem sc_parts : FnScope ["self", "condition", "part"] ["self", "condition"] (defScope s_parts) := ⟨rfl, rfl, rfl, by decide +kernel, rfl, by decide +kernel, by decide +kernel⟩
theorem c_parts {C : Addr} {E : List Int} (hs : HasStore R C E) (CL : ClsS K C) (D : DfnM K C "_parts" "Diagrams._parts" s_parts) (T : Bls mg) (hN : ∃ t, mg "NEVER" = some (.int 0 t)) (hA : ∃ t, mg "ALWAYS" = some (.int 1 t)) : CalM P w K mg base 1 C "_parts" ["self", "condition"] (spD K R [false, false] (p_parts hs)) := by
  obtain ⟨tN, gN⟩ := hN
  obtain ⟨tA, gA⟩ := hA
  obtain ⟨f, fd, F, hm⟩ := D.ex
  refine ⟨f, fd, F.ok sc_parts (spD_len fun ts g post h => ?len) (fun cdv A outer s H vs Q XE hr h => ?body), hm, F.bindsN fun _ _ _ _ _ _ us hl => match us, hl with | [_, _], _ => rfl⟩
  case len =>
    obtain ⟨_, _, rfl, _⟩ := h
    rfl
  case body =>
    refine ⟨_, PSs.nox (pss_cons (ps_if (pt_cmpR op_le (pv 1) (pe_glob (v := .int 1) (by rfl) gA ⟨_, rfl⟩) (nomark _)) (pss_one (ps_ret (pe_lst pa_nil))) pss_nil) (pss_one (ps_ret (pe_lc (own := [("part", 2)]) rfl sc_parts.nd (piTup (K := K) (pe_slice (slTK (K := K)) (pe_ix (ixK (K := K)) (fldK (K := K) (pv 0)) (pv 1) (fun _ _ => rfl)) (po_some pe_int) po_none)) (blkOk_by (N := N_parts) (sc := defScope s_parts) (own := [("part", 2)]) (by decide +kernel)) (fun _ _ _ _ _ => (pg_name (i := 2) sc_parts.nd rfl (Or.inl rfl))) (fun _ _ _ _ _ => (pts_one (pt_cmpR op_gt (pv 2) (pe_glob (v := .int 1) (by rfl) gA ⟨_, rfl⟩) (nomark _)))) (fun _ _ _ _ _ => (pv 2)))))), wq_enter h (fun ts g post h => ?l2) fun B ts g post hp => ?_⟩
    case l2 =>
      obtain ⟨_, _, rfl, _⟩ := h
      exact Nat.le_of_ble_eq_true rfl
    clear h
    obtain ⟨s, c, rfl, hg, hc, hp⟩ := hp
    show wQ _ _ _ _ _ [.dat _, .dat _, .any] _ _ _ _
    try dsimp only [cxOf, Cx.wish, Cx.blk]
    refine wq_seqM (fun g' es' => g' = g ∧ es' = [.dat (.raw (.ref s.a)), .dat (.int (c : Int)), .any] ∧ 1 < c) ?_ ?_
    · repeat' (wtm_at "z")
      · have e : kids s.ns c = [] := by
          unfold kids
          rw [node_small (by omega)]
        rw [e] at hp
        exact hp
      · omega
    rintro g _ ⟨rfl, rfl, h1⟩
    obtain ⟨n, hn⟩ := node_some h1 hc
    have ek : kids s.ns c = [n.w, n.t].filter fun k => decide (1 < k) := by
      unfold kids
      rw [hn]
    rw [ek] at hp
    refine wq_ret (we_lcFM (fun x => match x with | .int k => decide (k > 1) | _ => false) id (wi_tup (we_slT (we_nodeIx hs CL hg rfl (we_var rfl ⟨c, rfl, rfl, hc, ?_⟩)))))
    refine wo_some (we_int ⟨_, rfl, wo_none ?_⟩)
    have en : nodeT s.ns c = .tup [.int n.e, .int (n.w : Int), .int (n.t : Int)] := by unfold nodeT; rw [hn]; rfl
    refine ⟨_, en, _, rfl, Nat.le_of_ble_eq_true rfl, noOwn1 rfl rfl, fun x hx => ?_, ?_⟩
    · have hx : x = .int (n.w : Int) ∨ x = .int (n.t : Int) := by
        rcases List.mem_cons.mp hx with h | h
        · exact .inl h
        · exact .inr (List.mem_singleton.mp h)
      rcases hx with rfl | rfl
      all_goals
        refine wt_test (we_op (we_var rfl (we_int (wr_bl0 ⟨_, rfl, rfl, rfl, rfl, fun _ => we_var rfl ⟨rfl, rfl, rfl⟩⟩))))
    · refine (fun (x y : Zc.T) (e : y = x) (h : post x g) => (e ▸ h : post y g)) _ _ ?_ hp
      congr 1
      show ((([.int (n.w : Int), .int (n.t : Int)] : List Zc.T).filter _).map id) = natT (([n.w, n.t]).filter _)
      rw [List.map_id]
      have a1 : decide ((n.w : Int) > 1) = decide (1 < n.w) := by by_cases q : 1 < n.w <;> simp [q] <;> omega
      have a2 : decide ((n.t : Int) > 1) = decide (1 < n.t) := by by_cases q : 1 < n.t <;> simp [q] <;> omega
      simp only [List.filter_cons, a1, a2, List.filter_nil]
      cases decide (1 < n.w) <;> cases decide (1 < n.t) <;> rfl
abbrev s_reached : Stmt := inClass (topS 9) 13
abbrev N_reached : List Str := ["self", "conditions", "found", "condition", "pending", "last", "parts", "part"]
theorem sc_reached : FnScope ["self", "conditions", "found", "condition", "pending", "last", "parts", "part"] ["self", "conditions"] (defScope s_reached) := ⟨rfl, rfl, rfl, by decide +kernel, rfl, by decide +kernel, by decide +kernel⟩
theorem c_reached {C : Addr} {E : List Int} (hs : HasStore R C E) (CL : ClsS K C) (D : DfnM K C "reached" "Diagrams.reached" s_reached) (T : Bls mg) (C_parts : CalM P w K mg base 1 C "_parts" ["self", "condition"] (spD K R [false, false] (p_parts hs))) (hN : ∃ t, mg "NEVER" = some (.int 0 t)) (hA : ∃ t, mg "ALWAYS" = some (.int 1 t)) : CalM P w K mg base 2 C "reached" ["self", "conditions"] (spD K R [false, false] (p_reached hs)) := by
  obtain ⟨tN, gN⟩ := hN
  obtain ⟨tA, gA⟩ := hA
  obtain ⟨f, fd, F, hm⟩ := D.ex
  refine ⟨f, fd, F.ok sc_reached (spD_len fun ts g post h => ?len) (fun cdv A outer s H vs Q XE hr h => ?body), hm, F.bindsN fun _ _ _ _ _ _ us hl => match us, hl with | [_, _], _ => rfl⟩
  case len =>
    obtain ⟨_, _, rfl, _⟩ := h
    rfl
  case body =>
    refine ⟨_, PSs.nox (pss_cons (ps_set (i := 2) sc_reached.nd rfl (Or.inr rfl) pe_dnewK) (pss_cons (ps_for PassesOwn.never rfl (piList (K := K) (pv 1)) (pg_name (i := 3) sc_reached.nd rfl (Or.inl rfl)) (pss_cons (ps_set (i := 4) sc_reached.nd rfl (Or.inl rfl) (pe_lst (pa_cons (pv 3) pa_nil))) (pss_one (ps_while PassesOwn.never (ptTru (K := K) (pv 4)) (pss_cons (ps_set (i := 5) sc_reached.nd rfl (Or.inl rfl) (pe_ix (ixK (K := K)) (pv 4) (pe_un un_neg pe_int) (fun _ _ => rfl))) (pss_cons (ps_setLc (i := 6) (own := [("part", 7)]) rfl sc_reached.nd rfl rfl (sw_true rfl rfl rfl (by decide +kernel)) (piList (K := K) (pe_calM CL.cls C_parts hr (by first | decide | omega) (pv 0) (pa_cons (pv 5) pa_nil))) (blkOk_by (N := N_reached) (sc := defScope s_reached) (own := [("part", 7)]) (by decide +kernel)) (fun _ _ _ _ _ => (pg_name (i := 7) sc_reached.nd rfl (Or.inl rfl))) (fun _ _ _ _ _ => (pts_one (pt_cmp (pc_dnotin (hu_of hr) (pv 7) (pv 2)) rfl))) (fun _ _ _ _ _ => (pv 7))) (pss_one (ps_if (ptTru (K := K) (pv 6)) (pss_one (ps_expr (pe_bm PySem.F.plainAttrs_list PySem.F.slot_list_append PySem.F.type_list_append mt_append (pv 4) (pa_cons (pe_ix (ixK (K := K)) (pv 6) pe_int (fun _ _ => rfl)) pa_nil)))) (pss_cons (ps_expr (pe_bm0 PySem.F.plainAttrs_list PySem.F.slot_list_pop PySem.F.type_list_pop mt_pop (pv 4))) (pss_one (ps_if (pt_cmpR op_gt (pv 5) (pe_glob (v := .int 1) (by rfl) gA ⟨_, rfl⟩) (nomark _)) (pss_one (ps_dput (hu_of hr) (pv 2) (pv 5) pe_bl rfl)) pss_nil))))))))))) (pss_one (ps_ret (pe_callTy (call_listD rfl) (by rfl) T.list bt_list (pa_cons (pv 2) pa_nil)))))), wq_enter h (fun ts g post h => ?l2) fun B ts g post hp => ?_⟩
    case l2 =>
      obtain ⟨_, _, rfl, _⟩ := h
      exact Nat.le_of_ble_eq_true rfl
    clear h
    obtain ⟨s, cs, rfl, hg, ⟨k0, k1, k2⟩, hp⟩ := hp
    show wQ _ _ _ _ _ [.dat _, .dat _, .any, .any, .any, .any, .any, .any] _ _ _ _
    try dsimp only [cxOf, Cx.wish, Cx.blk]
    have g0 := k0.good
    refine wq_seq (wq_setD ?_)
    refine wq_seq (wq_for (tgt_name 3 [3] (List.mem_singleton.mpr rfl)) (wi_list (we_var rfl ⟨_, rfl, ?_⟩)))
    refine ⟨fun m g' es' => g' = g ∧ ∃ (fl : List Nat) (e3 e4 e5 e6 : Ent), Reached s.ns (cs.take m) fl ∧ es' = [.dat (.raw (.ref s.a)), .dat (.lst (natT cs)), .dk (fT fl), e3, e4, e5, e6, .any], ⟨rfl, [], .any, .any, .any, .any, Reached.nil, rfl⟩, ?_, ?_⟩
    · rintro m x g2 es2 hx ⟨rfl, fl, e3, e4, e5, e6, rc, rfl⟩
      obtain ⟨c, hc, rfl⟩ := natT_get hx
      have hcl := k1 c (List.mem_of_getElem? hc)
      refine ⟨_, rfl, ?_⟩
      refine wq_seq (wq_setL (wa_cons (we_var rfl (wa_nil ⟨Nat.le_of_ble_eq_true rfl, ?_⟩))))
      refine wq_while (fun z g' es' => g' = g2 ∧ ∃ (fl st : List Nat) (e5 e6 : Ent), left (s.ns.length + 2) fl st = z ∧ Reach1 s.ns (cs.take m) c fl ∧ Stk s.ns c fl st ∧ es' = [.dat (.raw (.ref s.a)), .dat (.lst (natT cs)), .dk (fT fl), .dat (.int (c : Int)), .lst (natT st.reverse), e5, e6, .any]) ⟨_, rfl, fl, [c], e5, e6, rfl, rc.one, rfl, rfl⟩ ?_
      rintro z g3 es3 ⟨rfl, fl, st, e5, e6, rfl, r1, sk, rfl⟩
      refine wt_bor fun B1 => wt_tru (we_var rfl ⟨_, rfl, rfl, ?_⟩)
      cases st with
      | nil =>
        show if (!(natT [].reverse).isEmpty) = true then _ else _
        refine w_iteBF rfl ?_
        exact ⟨rfl, fl, .dat (.int (c : Int)), .lst (natT [].reverse), e5, e6, r1.done hc sk, rfl⟩
      | cons t st =>
        have hsub := sk.sub
        have htl : t < s.ns.length + 2 := hsub.lt g0 hcl
        have hlen := sk.len g0
        have rv : natT (t :: st).reverse = natT st.reverse ++ [.int (t : Int)] := by rw [List.reverse_cons, ← natT_snoc']
        have ne : (natT (t :: st).reverse).isEmpty = false := by rw [rv]; simp
        refine w_iteBT (by rw [ne]; rfl) ?_
        refine wq_seq (wq_set (we_ixOwn rfl (we_un (we_int (wu_int ⟨_, -1, .int (t : Int), rfl, rfl, by rw [rv]; exact atI_last, ?_⟩)))))
        refine wq_seq (wq_set (we_lcFM (notF fl) id (wi_list (we_meth hs (fun _ _ _ => rfl) (we_var rfl ⟨s, rfl, hg, ?_⟩)))))
        repeat' (wtm_at "z")
        refine ⟨s, t, rfl, hg, htl, ?_⟩
        have kl : (kids s.ns t).length ≤ 2 := kids_len
        refine ⟨_, rfl, by rw [natT_len]; omega, noOwn1 rfl rfl, fun x hx => ?_, ?_⟩
        · obtain ⟨k, hk, rfl⟩ := List.mem_map.mp hx
          refine wt_bor fun B1 => wt_B (we_dnotin (we_var rfl (we_var rfl ⟨_, _, rfl, rfl, _, rfl, rfl, rfl, rfl, ?_, fun _ => we_var rfl ⟨rfl, rfl, rfl⟩⟩)))
          rw [fT_val]
          rfl
        rw [natT_filter]
        generalize hps : (kids s.ns t).filter (fun k => !decide (k ∈ fl)) = ps
        refine wq_if (wt_tru (we_var rfl ⟨_, rfl, ?_⟩))
        cases ps with
        | cons p ps =>
          have hp1 : p ∈ kids s.ns t ∧ p ∉ fl := by
            have : p ∈ (kids s.ns t).filter (fun k => !decide (k ∈ fl)) := by rw [hps]; exact List.mem_cons_self
            obtain ⟨a1, a2⟩ := List.mem_filter.mp this
            exact ⟨a1, by simpa using a2⟩
          have hpt := kids_lt g0 hp1.1
          refine w_iteBT rfl ?_
          refine wq_drop (we_append rfl (we_op (we_var rfl (we_int (wr_ixL ⟨.int (p : Int), atI_0, _, rfl, ?_, ?_⟩)))))
          · rw [natT_len]
            show (t :: st).reverse.length < sizeLine
            rw [List.length_reverse, List.length_cons]
            omega
          · refine ⟨_, left_push (p := p) ?_, rfl, fl, p :: t :: st, .dat (.int (t : Int)), .dat (.lst (natT (p :: ps))), rfl, r1, ⟨hp1.1, hp1.2, sk⟩, ?_⟩
            · omega
            · rw [natT_snoc', ← List.reverse_cons] <;> rfl
        | nil =>
          have hk : ∀ j, j ∈ kids s.ns t → j ∈ fl := fun j hj => by
            refine Classical.byContradiction fun q => ?_
            have : j ∈ (kids s.ns t).filter (fun k => !decide (k ∈ fl)) := List.mem_filter.mpr ⟨hj, by simpa using q⟩
            rw [hps] at this
            cases this
          refine w_iteBF rfl ?_
          rw [rv]
          refine wq_seq (wq_drop (we_pop rfl ?_))
          have sp := sk.pop g0
          have r2 := r1.add g0 hsub htl hk
          have hm : left (s.ns.length + 2) (addF fl t) st < left (s.ns.length + 2) fl (t :: st) := by
            have fle := r1.tp.len
            by_cases h1 : 1 < t ∧ t ∉ fl
            · unfold addF addN
              rw [if_pos h1.1, if_neg h1.2]
              exact left_pop (by omega) (by omega)
            · have : st = [] := sk.stay (Classical.byContradiction fun q => h1 ⟨by omega, fun z => q (.inl z)⟩) g0
              subst this
              have : addF fl t = fl := by
                unfold addF addN
                split
                · rename_i h2
                  rw [if_pos (Classical.byContradiction fun q => h1 ⟨h2, q⟩)]
                · rfl
              rw [this]
              exact left_end (by omega)
          refine wq_if (wt_test (we_op (we_var rfl (we_int (wr_bl0 ⟨_, rfl, w_iteD (fun h => ?_) (fun h => ?_)⟩)))))
          · refine wq_dput (we_bl ⟨⟨_, rfl⟩, we_var rfl ⟨_, _, rfl, rfl, ?_, ?_⟩⟩)
            · rw [fT_len]
              have := r1.tp.len
              omega
            · have ea : addF fl t = addN fl t := by unfold addF; rw [if_pos (by omega)]
              rw [ea] at sp r2 hm
              refine ⟨_, hm, rfl, addN fl t, st, .dat (.int (t : Int)), .dat (.lst (natT [])), rfl, r2, sp, ?_⟩
              rw [fT_put] <;> rfl
          · have ea : addF fl t = fl := by unfold addF; rw [if_neg (by omega)]
            rw [ea] at sp r2 hm
            exact wq_next ⟨_, hm, rfl, fl, st, .dat (.int (t : Int)), .dat (.lst (natT [])), rfl, r2, sp, rfl⟩
    · rintro g2 es2 ⟨rfl, fl, e3, e4, e5, e6, rc, rfl⟩
      rw [natT_len, List.take_length] at rc
      refine wq_ret (we_cb (wa_cons (we_ownD rfl (wa_nil (wc_listD ?_)))))
      rw [fT_keys]
      exact hp fl rc
abbrev s_depends : Stmt := inClass (topS 9) 16
abbrev N_depends : List Str := ["self", "condition", "node"]
theorem sc_depends : FnScope ["self", "condition", "node"] ["self", "condition"] (defScope s_depends) := ⟨rfl, rfl, rfl, by decide +kernel, rfl, by decide +kernel, by decide +kernel⟩
theorem c_depends {C : Addr} {E : List Int} (hs : HasStore R C E) (CL : ClsS K C) (D : DfnM K C "depends" "Diagrams.depends" s_depends) (T : Bls mg) (C_reached : CalM P w K mg base 2 C "reached" ["self", "conditions"] (spD K R [false, false] (p_reached hs))) (hN : ∃ t, mg "NEVER" = some (.int 0 t)) (hA : ∃ t, mg "ALWAYS" = some (.int 1 t)) : CalM P w K mg base 3 C "depends" ["self", "condition"] (spD K R [false, false] (p_depends hs)) := by
  obtain ⟨tN, gN⟩ := hN
  obtain ⟨tA, gA⟩ := hA
  obtain ⟨f, fd, F, hm⟩ := D.ex
  refine ⟨f, fd, F.ok sc_depends (spD_len fun ts g post h => ?len) (fun cdv A outer s H vs Q XE hr h => ?body), hm, F.bindsN fun _ _ _ _ _ _ us hl => match us, hl with | [_, _], _ => rfl⟩
  case len =>
    obtain ⟨_, _, rfl, _⟩ := h
    rfl
  case body =>
    refine ⟨_, PSs.nox (pss_one (ps_ret (pe_callB (sortSK (w := w)) (by rfl) T.sorted bt_sorted (pa_cons (pe_scI (own := [("node", 2)]) rfl sc_depends.nd (piList (K := K) (pe_calM CL.cls C_reached hr (by first | decide | omega) (pv 0) (pa_cons (pe_lst (pa_cons (pv 1) pa_nil)) pa_nil))) (blkOk_by (N := N_depends) (sc := defScope s_depends) (own := [("node", 2)]) (by decide +kernel)) (fun _ _ _ _ _ => (pg_name (i := 2) sc_depends.nd rfl (Or.inl rfl))) (fun _ _ _ _ _ => pts_nil) (fun _ _ _ _ _ => (pe_ix (ixK (K := K)) (pe_ix (ixK (K := K)) (fldK (K := K) (pv 0)) (pv 2) (fun _ _ => rfl)) pe_int (fun _ _ => rfl)))) pa_nil)))), wq_enter h (fun ts g post h => ?l2) fun B ts g post hp => ?_⟩
    case l2 =>
      obtain ⟨_, _, rfl, _⟩ := h
      exact Nat.le_of_ble_eq_true rfl
    clear h
    obtain ⟨s, c, rfl, hg, ⟨k0, k1, k2, k3⟩, hp⟩ := hp
    show wQ _ _ _ _ _ [.dat _, .dat _, .any] _ _ _ _
    try dsimp only [cxOf, Cx.wish, Cx.blk]
    have g0 := k0.good
    refine wq_ret (we_sortScI (entOf s.ns) (wi_list (we_meth hs (fun _ _ _ => rfl) (we_var rfl ⟨s, rfl, hg, ?_⟩))))
    repeat' (wtm_at "z")
    refine ⟨s, [c], rfl, hg, ⟨k0, fun c' h => by rw [List.mem_singleton.mp h]; exact k1, Nat.lt_of_lt_of_le k2 (by decide)⟩, fun l rc => ⟨_, rfl, ?_, ⟨E, k3, fun x hx => ?_⟩, noOwn1 rfl rfl, fun x hx => ?_, fun ms m1 m2 => hp ms m1 fun e => (m2 e).trans (rc.asks g0)⟩⟩
    · rw [natT_len]
      have := rc.tp.len
      omega
    · obtain ⟨i, hi, rfl⟩ := List.mem_map.mp hx
      obtain ⟨r1, r2⟩ := rc.tp.rg i hi
      obtain ⟨n, hn⟩ := node_some r1 r2
      rw [entOf_node hn]
      exact k0.ent n (List.mem_of_getElem? (node_lt hn).2.2)
    · obtain ⟨i, hi, rfl⟩ := List.mem_map.mp hx
      obtain ⟨r1, r2⟩ := rc.tp.rg i hi
      obtain ⟨n, hn⟩ := node_some r1 r2
      have en : nodeT s.ns i = .tup [.int n.e, .int (n.w : Int), .int (n.t : Int)] := by unfold nodeT; rw [hn]; rfl
      refine we_op (we_nodeIx hs CL hg rfl (we_var rfl ⟨i, rfl, rfl, r2, ?_⟩))
      rw [en]
      refine we_int (wr_ixT ⟨_, atI_0, rfl, rfl, ?_⟩)
      rw [entOf_node hn]
abbrev s_restrict : Stmt := inClass (topS 9) 17
abbrev N_restrict : List Str := ["self", "condition", "entry", "is_there", "results", "node", "asked", "without", "there"]
theorem sc_restrict : FnScope ["self", "condition", "entry", "is_there", "results", "node", "asked", "without", "there"] ["self", "condition", "entry", "is_there"] (defScope s_restrict) := ⟨rfl, rfl, rfl, by decide +kernel, rfl, by decide +kernel, by decide +kernel⟩
theorem c_restrict {C : Addr} {E : List Int} (hs : HasStore R C E) (CL : ClsS K C) (D : DfnM K C "restrict" "Diagrams.restrict" s_restrict) (T : Bls mg) (C_reached : CalM P w K mg base 2 C "reached" ["self", "conditions"] (spD K R [false, false] (p_reached hs))) (C_make : CalM P w K mg base 1 C "make" ["self", "entry", "without", "there"] (spD K R [false, false, false, false] (p_make hs))) (hN : ∃ t, mg "NEVER" = some (.int 0 t)) (hA : ∃ t, mg "ALWAYS" = some (.int 1 t)) : CalM P w K mg base 3 C "restrict" ["self", "condition", "entry", "is_there"] (spD K R [false, false, false, false] (p_restrict hs)) := by
  obtain ⟨tN, gN⟩ := hN
  obtain ⟨tA, gA⟩ := hA
  obtain ⟨f, fd, F, hm⟩ := D.ex
  refine ⟨f, fd, F.ok sc_restrict (spD_len fun ts g post h => ?len) (fun cdv A outer s H vs Q XE hr h => ?body), hm, F.bindsN fun _ _ _ _ _ _ us hl => match us, hl with | [_, _, _, _], _ => rfl⟩
  case len =>
    obtain ⟨_, _, _, _, rfl, _⟩ := h
    rfl
  case body =>
    refine ⟨_, PSs.nox (pss_cons (ps_set (i := 4) sc_restrict.nd rfl (Or.inl rfl) (pe_disp (pps_cons (pe_glob (v := .int 0) (by rfl) gN ⟨_, rfl⟩) (pe_glob (v := .int 0) (by rfl) gN ⟨_, rfl⟩) (pps_cons (pe_glob (v := .int 1) (by rfl) gA ⟨_, rfl⟩) (pe_glob (v := .int 1) (by rfl) gA ⟨_, rfl⟩) pps_nil)) rfl rfl (by simp) (by decide))) (pss_cons (ps_for PassesOwn.never rfl (piList (K := K) (pe_calM CL.cls C_reached hr (by first | decide | omega) (pv 0) (pa_cons (pe_lst (pa_cons (pv 1) pa_nil)) pa_nil))) (pg_name (i := 5) sc_restrict.nd rfl (Or.inl rfl)) (pss_cons (ps_asg (pe_ix (ixK (K := K)) (fldK (K := K) (pv 0)) (pv 5) (fun _ _ => rfl)) (pgTup (K := K) (n := 3) rfl (pgs_cons (pg_name (i := 6) sc_restrict.nd rfl (Or.inl rfl)) (pgs_cons (pg_name (i := 7) sc_restrict.nd rfl (Or.inl rfl)) (pgs_cons (pg_name (i := 8) sc_restrict.nd rfl (Or.inl rfl)) pgs_nil))))) (pss_one (ps_if (pt_cmpR op_eq (pv 6) (pv 2) (nomark _)) (pss_one (ps_dput (hu_of hr) (pv 4) (pv 5) (pe_ifExp (ptTru (K := K) (pv 3)) (pe_dget (hu_of hr) (pv 4) (pv 8) (fun _ _ => rfl)) (pe_dget (hu_of hr) (pv 4) (pv 7) (fun _ _ => rfl))) rfl)) (pss_one (ps_dput (hu_of hr) (pv 4) (pv 5) (pe_calM CL.cls C_make hr (by first | decide | omega) (pv 0) (pa_cons (pv 6) (pa_cons (pe_dget (hu_of hr) (pv 4) (pv 7) (fun _ _ => rfl)) (pa_cons (pe_dget (hu_of hr) (pv 4) (pv 8) (fun _ _ => rfl)) pa_nil)))) rfl)))))) (pss_one (ps_ret (pe_dget (hu_of hr) (pv 4) (pv 1) (fun _ _ => rfl)))))), wq_enter h (fun ts g post h => ?l2) fun B ts g post hp => ?_⟩
    case l2 =>
      obtain ⟨_, _, _, _, rfl, _⟩ := h
      exact Nat.le_of_ble_eq_true rfl
    clear h
    obtain ⟨s, c, e, b, rfl, hg, ⟨k0, k1, k8, k2⟩, hp⟩ := hp
    show wQ _ _ _ _ _ [.dat _, .dat _, .dat _, .dat _, .any, .any, .any, .any, .any] _ _ _ _
    try dsimp only [cxOf, Cx.wish, Cx.blk]
    have hsl : 100000 ≤ sizeLine := by decide
    have g0 := k0.good
    refine wq_seq (wq_setDisp ?_)
    repeat' (wtm_at "z")
    refine ⟨Nat.le_of_ble_eq_true rfl, ?_⟩
    refine wq_seq (wq_for (tgt_name 5 [5] (List.mem_singleton.mpr rfl)) (wi_list (we_meth hs (fun _ _ _ => rfl) (we_var rfl ⟨s, rfl, hg, ?_⟩))))
    repeat' (wtm_at "z")
    refine ⟨s, [c], rfl, hg, ⟨k0, fun c' h => by rw [List.mem_singleton.mp h]; exact k1, by omega⟩, fun l rc => ⟨_, rfl, ?_⟩⟩
    have lf := reached_few k0 k1 rc k8
    refine ⟨fun n g' es' => (∃ s1, hs.sg g' = some s1 ∧ s1.Ok E ∧ Ext s s1 n 0 ∧ ∃ (kv : List (Key × Zc.T)) (e5 e6 e7 e8 : Ent), RTab s.ns e b s1.ns l n kv ∧ es' = [.dat (.raw (.ref s.a)), .dat (.int (c : Int)), .dat (.int e), .dat (.bl b), .dk kv, e5, e6, e7, e8]), ⟨s, hg, k0, Ext.refl s, _, .any, .any, .any, .any, .start, rfl⟩, ?_, ?_⟩
    · rintro n x g2 es2 hx ⟨s1, h1, o1, x1, kv, e5, e6, e7, e8, nt, rfl⟩
      obtain ⟨i, hi, rfl⟩ := natT_get hx
      have hnl : n < l.length := (List.getElem?_eq_some_iff.mp hi).1
      have im := List.mem_of_getElem? hi
      obtain ⟨r1, r2⟩ := rc.tp.rg i im
      obtain ⟨m, hm⟩ := node_some r1 r2
      obtain ⟨q1, q2, _⟩ := g0.kids hm
      have l1 := x1.len
      obtain ⟨ms, em, _⟩ := x1.ns
      have hm1 : node s1.ns i = some m := by rw [em, node_app r2]; exact hm
      have en : nodeT s1.ns i = .tup [.int m.e, .int (m.w : Int), .int (m.t : Int)] := by unfold nodeT; rw [hm1]; rfl
      obtain ⟨rw_, gw, lw, dw⟩ := nt.get _ (kid_w rc.tp hi hm)
      obtain ⟨rt_, gt, lt, dt⟩ := nt.get _ (kid_t rc.tp hi hm)
      have dn := fun σ => den_node g0 hm (σ := put σ e b)
      refine ⟨_, rfl, ?_⟩
      refine wq_seq (wq_asgT (tgt_tup3 6 7 8 [6, 7, 8] (by decide) (by decide) (by decide)) (we_nodeIx hs CL h1 (by rw [x1.a] <;> rfl) (we_var rfl ⟨i, rfl, rfl, by omega, ?_⟩)))
      rw [en]
      refine ⟨_, ⟨_, _, _, rfl, rfl⟩, ?_⟩
      refine wq_if (wt_test (we_op (we_var rfl (we_var rfl (wr_eqI ⟨_, rfl, w_iteD (fun he => ?_) (fun he => ?_)⟩)))))
      · have fin : ∀ (r : Nat), r < s1.ns.length + 2 → (∀ σ, den s1.ns r σ = den s.ns i (put σ e b)) → RTab s.ns e b s1.ns l (n + 1) (putT kv (.inl (i : Int)) (.int (r : Int))) := fun r => nt.step hi
        have big : kv.length < sizeLine := by have := nt.len; omega
        refine wq_dput (we_if (wt_tru (we_var rfl ⟨b, rfl, w_ite (fun hb => ?_) (fun hb => ?_)⟩)))
        · refine we_dgetOwn rfl (we_var rfl ⟨_, _, _, rfl, rfl, gt, ⟨_, rfl⟩, we_var rfl ⟨_, _, rfl, rfl, big, ?_⟩⟩)
          refine ⟨s1, h1, o1, x1.mono (Nat.le_succ n) (Nat.le_refl 0), _, _, _, _, _, fin rt_ lt (fun σ => ?_), rfl⟩
          rw [dn, ← he, put_same, hb, dt, he, hb] <;> rfl
        · refine we_dgetOwn rfl (we_var rfl ⟨_, _, _, rfl, rfl, gw, ⟨_, rfl⟩, we_var rfl ⟨_, _, rfl, rfl, big, ?_⟩⟩)
          refine ⟨s1, h1, o1, x1.mono (Nat.le_succ n) (Nat.le_refl 0), _, _, _, _, _, fin rw_ lw (fun σ => ?_), rfl⟩
          rw [dn, ← he, put_same, hb, dw, he, hb] <;> rfl
      · have hE : m.e ∈ E := k0.ent m (List.mem_of_getElem? (node_lt hm).2.2)
        have fw : ∀ x, x ≤ m.e → Free (den s1.ns rw_) x := fun x hx σ v => by
          rw [dw, dw]
          exact (den_kid_free g0 hm (by omega) (g0.topw hm) hx).known σ v
        have ft : ∀ x, x ≤ m.e → Free (den s1.ns rt_) x := fun x hx σ v => by
          rw [dt, dt]
          exact (den_kid_free g0 hm (by omega) (g0.topt hm) hx).known σ v
        refine wq_dput (we_meth hs (fun _ _ _ => rfl) (we_var rfl ⟨s1, by rw [x1.a], h1, ?_⟩))
        repeat' (wtm_at "z")
        refine we_dgetOwn rfl (we_var rfl ⟨_, _, _, rfl, rfl, gw, ?_⟩)
        repeat' (wtm_at "z")
        refine we_dgetOwn rfl (we_var rfl ⟨_, _, _, rfl, rfl, gt, ?_⟩)
        repeat' (wtm_at "z")
        refine ⟨s1, m.e, rw_, rt_, by rw [x1.a], h1, ⟨o1, hE, lw, lt, top_of_free o1.good lw fw, top_of_free o1.good lt ft, by omega⟩, fun r g3 s3 h3 o3 x3 l3 d3 => ?_⟩
        refine ⟨⟨_, rfl⟩, we_var rfl ⟨_, _, rfl, rfl, by have := nt.len; omega, ?_⟩⟩
        refine ⟨s3, h3, o3, x1.trans x3, _, _, _, _, _, (nt.ext x3 o3).step hi l3 (fun σ => ?_), rfl⟩
        rw [d3, dn, put_ne he, dw, dt]
    · rintro g2 es2 ⟨s1, h1, o1, x1, kv, e5, e6, e7, e8, nt, rfl⟩
      rw [natT_len] at nt x1
      have hcl : c < 2 ∨ c ∈ l.take l.length := by
        rw [List.take_length]
        rcases Nat.lt_or_ge c 2 with q | q
        · exact .inl q
        · exact .inr (rc.all c (List.mem_singleton.mpr rfl) q)
      obtain ⟨r, g1, l1, d1⟩ := nt.get c hcl
      refine wq_ret (we_dgetOwn rfl (we_var rfl ⟨_, _, _, rfl, rfl, g1, ?_⟩))
      exact hp r g2 s1 h1 o1 (x1.mono (by omega) (Nat.le_refl 0)) l1 d1
abbrev s_added : Stmt := topS 11
abbrev N_added : List Str := ["first", "second", "longer", "shorter", "place", "count"]
theorem sc_added : FnScope ["first", "second", "longer", "shorter", "place", "count"] ["first", "second"] (defScope s_added) := ⟨rfl, rfl, rfl, by decide +kernel, rfl, by decide +kernel, by decide +kernel⟩
theorem c_added  (D : Dfn K mg "added" s_added) (T : Bls mg)  : Cal P w K mg base 1 "added" ["first", "second"] (spD K R [false, false] (p_added R)) := by
  obtain ⟨f, fd, F, hm⟩ := D.ex
  refine ⟨f, fd, F.ok sc_added (spD_len fun ts g post h => ?len) (fun cdv A outer s H vs Q XE hr h => ?body), hm, F.kp, F.bindsN fun _ _ _ _ _ _ us hl => match us, hl with | [_, _], _ => rfl⟩
  case len =>
    obtain ⟨_, _, rfl, _⟩ := h
    rfl
  case body =>
    refine ⟨_, PSs.nox (pss_cons (ps_asg (pe_ifExp (pt_cmpR op_ge (pe_callB (lenK (K := K)) (by rfl) T.len bt_len (pa_cons (pv 0) pa_nil)) (pe_callB (lenK (K := K)) (by rfl) T.len bt_len (pa_cons (pv 1) pa_nil)) (nomark _)) (pe_tup (pa_cons (pv 0) (pa_cons (pv 1) pa_nil))) (pe_tup (pa_cons (pv 1) (pa_cons (pv 0) pa_nil)))) (pgTup (K := K) (n := 2) rfl (pgs_cons (pg_name (i := 2) sc_added.nd rfl (Or.inl rfl)) (pgs_cons (pg_name (i := 3) sc_added.nd rfl (Or.inr rfl)) pgs_nil)))) (pss_one (ps_ret (pe_lc (own := [("place", 4), ("count", 5)]) rfl sc_added.nd (piEnum (K := K) (by rfl) T.enumerate (pa_cons (pv 2) pa_nil)) (blkOk_by (N := N_added) (sc := defScope s_added) (own := [("place", 4), ("count", 5)]) (by decide +kernel)) (fun _ _ _ _ _ => (pgTup (K := K) (n := 2) rfl (pgs_cons (pg_name (i := 4) sc_added.nd rfl (Or.inl rfl)) (pgs_cons (pg_name (i := 5) sc_added.nd rfl (Or.inl rfl)) pgs_nil)))) (fun _ _ _ _ _ => pts_nil) (fun _ _ _ _ _ => (pe_ifExp (pt_cmpR op_lt (pv 4) (pe_callB (lenK (K := K)) (by rfl) T.len bt_len (pa_cons (pv 3) pa_nil)) (nomark _)) (pe_op op_add (pv 5) (pe_ix (ixK (K := K)) (pv 3) (pv 4) (fun _ _ => rfl))) (pv 5))))))), wq_enter h (fun ts g post h => ?l2) fun B ts g post hp => ?_⟩
    case l2 =>
      obtain ⟨_, _, rfl, _⟩ := h
      exact Nat.le_of_ble_eq_true rfl
    clear h
    obtain ⟨a, b, rfl, ⟨ha, hb⟩, hp⟩ := hp
    show wQ _ _ _ _ _ [.dat _, .dat _, .any, .any, .any, .any] _ _ _ _
    try dsimp only [cxOf, Cx.wish, Cx.blk]
    refine wq_seq (wq_setT ?_)
    have rule : ∀ (u v : List Int), v.length ≤ u.length → addC a b = addC u v → u.length ≤ 100 → ∀ (n : Nat) (x : Zc.T), (enumT (u.map Zc.T.int))[n]? = some x → ∃ c : Int, u[n]? = some c ∧ x = .tup [.int (n : Int), .int c] ∧ n < 100 ∧ (addC a b)[n]? = some (c + (v[n]?).getD 0) := fun u v h e hu n x hx => by
      obtain ⟨c, h1, h2⟩ := enum_ints hx
      have := (List.getElem?_eq_some_iff.mp h1).1
      exact ⟨c, h1, h2, by omega, by rw [e]; exact addC_get h1⟩
    have hl := addC_len a b
    have la : (a.map Zc.T.int).length = a.length := List.length_map ..
    have lb : (b.map Zc.T.int).length = b.length := List.length_map ..
    have small : ∀ n : Nat, n < 100 → n < sizeLine := fun n h => Nat.lt_of_lt_of_le h (by decide)
    repeat' (wtm_at "z")
    · have R0 := rule a b (by omega) rfl (by omega)
      refine ⟨_, _, rfl, ?_⟩
      refine wq_ret (we_lc (tgt_tup 4 5 [4, 5] (by decide) (by decide)) (wi_enum (wa_cons (we_var rfl (wa_nil ⟨_, rfl, ?_⟩)))))
      refine ⟨noOwn2 rfl rfl rfl rfl, fun n acc g' => g' = g ∧ acc = ((addC a b).take n).map .int, ⟨rfl, rfl⟩, fun n x acc g2 hx hacc => ?_, fun acc g2 hacc => ?_⟩
      · obtain ⟨rfl, rfl⟩ := hacc
        obtain ⟨c, h1, rfl, hn, h2⟩ := R0 n x hx
        have big : (((addC a b).take n).map Zc.T.int).length < sizeLine := by
          refine small _ ?_
          rw [List.length_map, List.length_take]
          omega
        have et : ((addC a b).take (n + 1)).map Zc.T.int = ((addC a b).take n).map Zc.T.int ++ [.int (c + (b[n]?).getD 0)] := by
          rw [take_snoc h2, List.map_append] <;> rfl
        refine ⟨_, ⟨_, _, rfl, rfl⟩, noOwn2 rfl rfl rfl rfl, wt_yes ⟨rfl, ?_⟩⟩
        show Zc.wE _ _ _ _ _ _ _
        refine we_if (wt_test (we_op (we_var rfl ?_)))
        repeat' (wtm_at "z")
        · rename_i hlt
          have he : b[n]? = some b[n] := List.getElem?_eq_getElem (by omega)
          refine ⟨_, atI_ints he, ?_⟩
          repeat' (wtm_at "z")
          refine ⟨rfl, big, rfl, ?_⟩
          rw [et, he] <;> rfl
        · rename_i hlt
          have he : b[n]? = none := List.getElem?_eq_none (by omega)
          refine ⟨rfl, big, rfl, ?_⟩
          rw [et, he]
          show _ = _ ++ [Zc.T.int (c + 0)]
          rw [Int.add_zero]
      · obtain ⟨rfl, rfl⟩ := hacc
        rw [enumT_len, List.length_map, List.take_of_length_le (by omega)]
        exact hp
    · have R0 := rule b a (by omega) (addC_comm a b) (by omega)
      refine ⟨_, _, rfl, ?_⟩
      refine wq_ret (we_lc (tgt_tup 4 5 [4, 5] (by decide) (by decide)) (wi_enum (wa_cons (we_var rfl (wa_nil ⟨_, rfl, ?_⟩)))))
      refine ⟨noOwn2 rfl rfl rfl rfl, fun n acc g' => g' = g ∧ acc = ((addC a b).take n).map .int, ⟨rfl, rfl⟩, fun n x acc g2 hx hacc => ?_, fun acc g2 hacc => ?_⟩
      · obtain ⟨rfl, rfl⟩ := hacc
        obtain ⟨c, h1, rfl, hn, h2⟩ := R0 n x hx
        have big : (((addC a b).take n).map Zc.T.int).length < sizeLine := by
          refine small _ ?_
          rw [List.length_map, List.length_take]
          omega
        have et : ((addC a b).take (n + 1)).map Zc.T.int = ((addC a b).take n).map Zc.T.int ++ [.int (c + (a[n]?).getD 0)] := by
          rw [take_snoc h2, List.map_append] <;> rfl
        refine ⟨_, ⟨_, _, rfl, rfl⟩, noOwn2 rfl rfl rfl rfl, wt_yes ⟨rfl, ?_⟩⟩
        show Zc.wE _ _ _ _ _ _ _
        refine we_if (wt_test (we_op (we_var rfl ?_)))
        repeat' (wtm_at "z")
        · rename_i hlt
          have he : a[n]? = some a[n] := List.getElem?_eq_getElem (by omega)
          refine ⟨_, atI_ints he, ?_⟩
          repeat' (wtm_at "z")
          refine ⟨rfl, big, rfl, ?_⟩
          rw [et, he] <;> rfl
        · rename_i hlt
          have he : a[n]? = none := List.getElem?_eq_none (by omega)
          refine ⟨rfl, big, rfl, ?_⟩
          rw [et, he]
          show _ = _ ++ [Zc.T.int (c + 0)]
          rw [Int.add_zero]
      · obtain ⟨rfl, rfl⟩ := hacc
        rw [enumT_len, List.length_map, List.take_of_length_le (by omega)]
        exact hp
abbrev s_widened : Stmt := topS 12
abbrev N_widened : List Str := ["counts", "times", "_"]
theorem sc_widened : FnScope ["counts", "times", "_"] ["counts", "times"] (defScope s_widened) := ⟨rfl, rfl, rfl, by decide +kernel, rfl, by decide +kernel, by decide +kernel⟩
theorem c_widened  (D : Dfn K mg "widened" s_widened) (T : Bls mg) (C_added : Cal P w K mg base 1 "added" ["first", "second"] (spD K R [false, false] (p_added R))) : Cal P w K mg base 2 "widened" ["counts", "times"] (spD K R [false, false] (p_widened R)) := by
  obtain ⟨f, fd, F, hm⟩ := D.ex
  refine ⟨f, fd, F.ok sc_widened (spD_len fun ts g post h => ?len) (fun cdv A outer s H vs Q XE hr h => ?body), hm, F.kp, F.bindsN fun _ _ _ _ _ _ us hl => match us, hl with | [_, _], _ => rfl⟩
  case len =>
    obtain ⟨_, _, rfl, _⟩ := h
    rfl
  case body =>
    refine ⟨_, PSs.nox (pss_cons (ps_for PassesOwn.never rfl (pi_range1 (by rfl) T.range (pa_cons (pv 1) pa_nil)) (pg_name (i := 2) sc_widened.nd rfl (Or.inl rfl)) (pss_one (ps_set (i := 0) sc_widened.nd rfl (Or.inl rfl) (pe_cal C_added hr (by decide) rfl (pa_cons (pv 0) (pa_cons (pe_op (catLK (K := K)) (pe_lst (pa_cons pe_int pa_nil)) (pv 0)) pa_nil)))))) (pss_one (ps_ret (pv 0)))), wq_enter h (fun ts g post h => ?l2) fun B ts g post hp => ?_⟩
    case l2 =>
      obtain ⟨_, _, rfl, _⟩ := h
      exact Nat.le_of_ble_eq_true rfl
    clear h
    obtain ⟨cs, k, rfl, hk, hp⟩ := hp
    show wQ _ _ _ _ _ [.dat _, .dat _, .any] _ _ _ _
    try dsimp only [cxOf, Cx.wish, Cx.blk]
    refine wq_seq (wq_for (tgt_name 2 [2] (List.mem_singleton.mpr rfl)) (wi_rng1 (wa_cons (we_var rfl (wa_nil ⟨_, rfl, by omega, ?_⟩)))))
    refine ⟨fun n g' es' => g' = g ∧ ∃ e2 : Ent, es' = [.dat (.lst ((wid n cs).map .int)), .dat (.int (k : Int)), e2], ⟨rfl, .any, rfl⟩, ?_, ?_⟩
    · rintro n x g2 es2 hx ⟨rfl, e2, rfl⟩
      have hn : n < (rangeT 0 (k : Int).toNat).length := (List.getElem?_eq_some_iff.mp hx).1
      rw [rangeT_len] at hn
      have hw := wid_len cs n
      refine ⟨_, rfl, ?_⟩
      refine wq_set (we_call (wm_dat (we_var rfl (wm_dat (we_op (we_lst (wa_cons (we_int (wa_nil ⟨Nat.le_of_ble_eq_true rfl, we_var rfl (wr_catL ?_ (wm_nil ⟨wid n cs, 0 :: wid n cs, rfl, ⟨by omega, ?_⟩, rfl, _, rfl⟩))⟩)))))))))
      · rw [List.length_map, hw]
        exact Nat.le_trans (show 1 + _ ≤ 200 by omega) (by decide)
      · rw [List.length_cons]
        omega
    · rintro g2 es2 ⟨rfl, e2, rfl⟩
      rw [rangeT_len]
      exact wq_ret (we_var rfl hp)
abbrev s_orders : Stmt := topS 14
abbrev N_orders : List Str := ["most", "numbers", "count"]
theorem sc_orders : FnScope ["most", "numbers", "count"] ["most"] (defScope s_orders) := ⟨rfl, rfl, rfl, by decide +kernel, rfl, by decide +kernel, by decide +kernel⟩
theorem c_orders  (D : Dfn K mg "orders" s_orders) (T : Bls mg)  : Cal P w K mg base 1 "orders" ["most"] (spD K R [false] (p_orders R)) := by
  obtain ⟨f, fd, F, hm⟩ := D.ex
  refine ⟨f, fd, F.ok sc_orders (spD_len fun ts g post h => ?len) (fun cdv A outer s H vs Q XE hr h => ?body), hm, F.kp, F.bindsN fun _ _ _ _ _ _ us hl => match us, hl with | [_], _ => rfl⟩
  case len =>
    obtain ⟨_, rfl, _⟩ := h
    rfl
  case body =>
    refine ⟨_, PSs.nox (pss_cons (ps_set (i := 1) sc_orders.nd rfl (Or.inl rfl) (pe_lst (pa_cons pe_int pa_nil))) (pss_cons (ps_for PassesOwn.never rfl (pi_range2 (by rfl) T.range (pa_cons pe_int (pa_cons (pe_op op_add (pv 0) pe_int) pa_nil))) (pg_name (i := 2) sc_orders.nd rfl (Or.inl rfl)) (pss_one (ps_expr (pe_bm PySem.F.plainAttrs_list PySem.F.slot_list_append PySem.F.type_list_append mt_append (pv 1) (pa_cons (pe_op op_mul (pe_ix (ixK (K := K)) (pv 1) (pe_un un_neg pe_int) (fun _ _ => rfl)) (pv 2)) pa_nil))))) (pss_one (ps_ret (pv 1))))), wq_enter h (fun ts g post h => ?l2) fun B ts g post hp => ?_⟩
    case l2 =>
      obtain ⟨_, rfl, _⟩ := h
      exact Nat.le_of_ble_eq_true rfl
    clear h
    obtain ⟨n, rfl, hn, hp⟩ := hp
    show wQ _ _ _ _ _ [.dat _, .any, .any] _ _ _ _
    try dsimp only [cxOf, Cx.wish, Cx.blk]
    refine wq_seq (wq_setL (wa_cons (we_int (wa_nil ⟨Nat.le_of_ble_eq_true rfl, ?_⟩))))
    refine wq_seq (wq_for (tgt_name 2 [2] (List.mem_singleton.mpr rfl)) (wi_rng2 ?_))
    repeat' (wtm_at "z")
    refine ⟨_, _, rfl, by omega, fun m g' es' => g' = g ∧ ∃ e2 : Ent, es' = [.dat (.int (n : Int)), .lst ((facs (m + 1)).map .int), e2], ⟨rfl, .any, rfl⟩, ?_, ?_⟩
    · rintro m x g2 es2 hx ⟨rfl, e2, rfl⟩
      have hm := (List.getElem?_eq_some_iff.mp hx).1
      rw [rangeT_len] at hm
      rw [rangeT_get hm] at hx
      cases hx
      refine ⟨_, rfl, ?_⟩
      refine wq_drop (we_append rfl (we_op (we_ixOwn rfl (we_un (we_int (wu_int ⟨_, -1, .int (fac m : Int), rfl, rfl, facs_last m, we_var rfl (wr_intC (cmul_r (by omega)) ⟨_, rfl, ?_, ?_⟩)⟩))))))
      · rw [List.length_map]
        unfold facs
        rw [List.length_map, List.length_range]
        exact Nat.lt_of_lt_of_le (show m + 1 < 100 by omega) (by decide)
      · refine ⟨rfl, .dat (.int (1 + (m : Int))), ?_⟩
        rw [facs_snoc (m + 1), List.map_append]
        have : (fac (m + 1) : Int) = (fac m : Int) * (1 + (m : Int)) := by
          show (((m + 1) * fac m : Nat) : Int) = _
          rw [Int.natCast_mul, Int.mul_comm, Int.natCast_succ, Int.add_comm]
        rw [List.map_cons, List.map_nil, this] <;> rfl
    · rintro g2 es2 ⟨rfl, e2, rfl⟩
      rw [rangeT_len, show ((n : Int) + 1 - 1).toNat = n by omega]
      refine wq_ret (we_own rfl ?_)
      rw [← facT_eq]
      exact hp
abbrev s_weighed : Stmt := topS 15
abbrev N_weighed : List Str := ["counts", "numbers", "others", "size", "count"]
theorem sc_weighed : FnScope ["counts", "numbers", "others", "size", "count"] ["counts", "numbers", "others"] (defScope s_weighed) := ⟨rfl, rfl, rfl, by decide +kernel, rfl, by decide +kernel, by decide +kernel⟩
theorem c_weighed  (D : Dfn K mg "weighed" s_weighed) (T : Bls mg)  : Cal P w K mg base 1 "weighed" ["counts", "numbers", "others"] (spD K R [false, false, false] (p_weighed R)) := by
  obtain ⟨f, fd, F, hm⟩ := D.ex
  refine ⟨f, fd, F.ok sc_weighed (spD_len fun ts g post h => ?len) (fun cdv A outer s H vs Q XE hr h => ?body), hm, F.kp, F.bindsN fun _ _ _ _ _ _ us hl => match us, hl with | [_, _, _], _ => rfl⟩
  case len =>
    obtain ⟨_, _, _, rfl, _⟩ := h
    rfl
  case body =>
    refine ⟨_, PSs.nox (pss_one (ps_ret (pe_callB (sumK (K := K)) (by rfl) T.sum bt_sum (pa_cons (pe_lc (own := [("size", 3), ("count", 4)]) rfl sc_weighed.nd (piEnum (K := K) (by rfl) T.enumerate (pa_cons (pv 0) pa_nil)) (blkOk_by (N := N_weighed) (sc := defScope s_weighed) (own := [("size", 3), ("count", 4)]) (by decide +kernel)) (fun _ _ _ _ _ => (pgTup (K := K) (n := 2) rfl (pgs_cons (pg_name (i := 3) sc_weighed.nd rfl (Or.inl rfl)) (pgs_cons (pg_name (i := 4) sc_weighed.nd rfl (Or.inl rfl)) pgs_nil)))) (fun _ _ _ _ _ => pts_nil) (fun _ _ _ _ _ => (pe_op op_mul (pe_op op_mul (pv 4) (pe_ix (ixK (K := K)) (pv 1) (pv 3) (fun _ _ => rfl))) (pe_ix (ixK (K := K)) (pv 1) (pe_op op_sub (pv 2) (pv 3)) (fun _ _ => rfl))))) pa_nil)))), wq_enter h (fun ts g post h => ?l2) fun B ts g post hp => ?_⟩
    case l2 =>
      obtain ⟨_, _, _, rfl, _⟩ := h
      exact Nat.le_of_ble_eq_true rfl
    clear h
    obtain ⟨cs, n, m, rfl, ⟨h1, h2, h3⟩, hp⟩ := hp
    show wQ _ _ _ _ _ [.dat _, .dat _, .dat _, .any, .any] _ _ _ _
    try dsimp only [cxOf, Cx.wish, Cx.blk]
    rw [facT_eq]
    refine wq_ret (we_cb (wa_cons (we_lc (tgt_tup 3 4 [3, 4] (by decide) (by decide)) (wi_enum (wa_cons (we_var rfl (wa_nil ⟨_, rfl, ?_⟩)))))))
    refine ⟨noOwn2 rfl rfl rfl rfl, fun n' acc g' => g' = g ∧ acc = ((linT (fun k => (fac k : Int) * (fac (m - k) : Int)) cs).take n').map .int, ⟨rfl, rfl⟩, fun n' x acc g2 hx hacc => ?_, fun acc g2 hacc => ?_⟩
    · obtain ⟨rfl, rfl⟩ := hacc
      obtain ⟨c, h4, rfl⟩ := enum_ints hx
      have hn := (List.getElem?_eq_some_iff.mp h4).1
      refine ⟨_, ⟨_, _, rfl, rfl⟩, noOwn2 rfl rfl rfl rfl, wt_yes ⟨rfl, ?_⟩⟩
      show Zc.wE _ _ _ _ _ _ _
      have b1 := fac_le8 (show n' ≤ 8 by omega)
      have b2 := fac_le8 (show m - n' ≤ 8 by omega)
      repeat' (wtm_at "z")
      refine ⟨_, atI_ints (facs_get (show n' < n + 1 by omega)), ?_⟩
      refine wr_intC (cmul_r (by omega)) ?_
      repeat' (wtm_at "z")
      rw [show (m : Int) - (n' : Int) = ((m - n' : Nat) : Int) by omega]
      refine ⟨_, atI_ints (facs_get (show m - n' < n + 1 by omega)), ?_⟩
      refine wr_intC (cmul_r (by omega)) ⟨rfl, ?_, rfl, ?_⟩
      · rw [List.length_map, List.length_take, linT_len]
        exact Nat.lt_of_lt_of_le (show _ < 100 by omega) (by decide)
      · rw [take_snoc (linT_get h4), List.map_append, Int.mul_assoc] <;> rfl
    · obtain ⟨rfl, rfl⟩ := hacc
      rw [enumT_len, List.length_map, List.take_of_length_le (by rw [linT_len]; exact Nat.le_refl _)]
      refine wa_nil (wc_sum ?_)
      rw [linT_sum]
      exact hp
abbrev s_sizes : Stmt := topS 13
abbrev N_sizes : List Str := ["store", "condition", "entries", "entry", "places", "found", "node", "without", "there", "place", "missing", "present", "counts"]
theorem sc_sizes : FnScope ["store", "condition", "entries", "entry", "places", "found", "node", "without", "there", "place", "missing", "present", "counts"] ["store", "condition", "entries"] (defScope s_sizes) := ⟨rfl, rfl, rfl, by decide +kernel, rfl, by decide +kernel, by decide +kernel⟩
theorem c_sizes {C : Addr} {E : List Int} (hs : HasStore R C E) (CL : ClsS K C) (D : Dfn K mg "sizes" s_sizes) (T : Bls mg) (C_reached : CalM P w K mg base 2 C "reached" ["self", "conditions"] (spD K R [false, false] (p_reached hs))) (C_node : CalM P w K mg base 1 C "node" ["self", "condition"] (spD K R [false, false] (p_node hs))) (C_depends : CalM P w K mg base 3 C "depends" ["self", "condition"] (spD K R [false, false] (p_depends hs))) (C_restrict : CalM P w K mg base 3 C "restrict" ["self", "condition", "entry", "is_there"] (spD K R [false, false, false, false] (p_restrict hs))) (C_added : Cal P w K mg base 1 "added" ["first", "second"] (spD K R [false, false] (p_added R))) (C_widened : Cal P w K mg base 2 "widened" ["counts", "times"] (spD K R [false, false] (p_widened R))) (hN : ∃ t, mg "NEVER" = some (.int 0 t)) (hA : ∃ t, mg "ALWAYS" = some (.int 1 t)) : Cal P w K mg base 4 "sizes" ["store", "condition", "entries"] (spD K R [false, false, false] (p_sizes hs)) := by
  obtain ⟨tN, gN⟩ := hN
  obtain ⟨tA, gA⟩ := hA
  obtain ⟨f, fd, F, hm⟩ := D.ex
  refine ⟨f, fd, F.ok sc_sizes (spD_len fun ts g post h => ?len) (fun cdv A outer s H vs Q XE hr h => ?body), hm, F.kp, F.bindsN fun _ _ _ _ _ _ us hl => match us, hl with | [_, _, _], _ => rfl⟩
  case len =>
    obtain ⟨_, _, _, rfl, _⟩ := h
    rfl
  case body =>
    refine ⟨_, PSs.nox (pss_cons (ps_for PassesOwn.never rfl (piList (K := K) (pe_calM CL.cls C_depends hr (by first | decide | omega) (pv 0) (pa_cons (pv 1) pa_nil))) (pg_name (i := 3) sc_sizes.nd rfl (Or.inl rfl)) (pss_one (ps_if (pt_cmpR (niK (K := K)) (pv 3) (pv 2) (by rfl)) (pss_one (ps_set (i := 1) sc_sizes.nd rfl (Or.inl rfl) (pe_calM CL.cls C_restrict hr (by first | decide | omega) (pv 0) (pa_cons (pv 1) (pa_cons (pv 3) (pa_cons pe_bl pa_nil)))))) pss_nil))) (pss_cons (ps_setDc (i := 4) (own := [("place", 9), ("entry", 3)]) rfl sc_sizes.nd rfl rfl (sw_trueD rfl rfl rfl (by decide +kernel)) (piEnum (K := K) (by rfl) T.enumerate (pa_cons (pv 2) pa_nil)) (blkOk_by (N := N_sizes) (sc := defScope s_sizes) (own := [("place", 9), ("entry", 3)]) (by decide +kernel)) (fun _ _ _ _ _ => (pgTup (K := K) (n := 2) rfl (pgs_cons (pg_name (i := 9) sc_sizes.nd rfl (Or.inl rfl)) (pgs_cons (pg_name (i := 3) sc_sizes.nd rfl (Or.inl rfl)) pgs_nil)))) (fun _ _ _ _ _ => pts_nil) (fun _ _ _ _ _ => (pv 3)) (fun _ _ _ _ _ => (pv 9))) (pss_cons (ps_set (i := 5) sc_sizes.nd rfl (Or.inl rfl) (pe_disp (pps_cons (pe_glob (v := .int 0) (by rfl) gN ⟨_, rfl⟩) (pe_tup (pa_cons (pe_callB (lenK (K := K)) (by rfl) T.len bt_len (pa_cons (pv 2) pa_nil)) (pa_cons (pe_lst (pa_cons pe_int pa_nil)) pa_nil))) (pps_cons (pe_glob (v := .int 1) (by rfl) gA ⟨_, rfl⟩) (pe_tup (pa_cons (pe_callB (lenK (K := K)) (by rfl) T.len bt_len (pa_cons (pv 2) pa_nil)) (pa_cons (pe_lst (pa_cons pe_int pa_nil)) pa_nil))) pps_nil)) rfl rfl (by simp) (by decide))) (pss_cons (ps_for PassesOwn.never rfl (piList (K := K) (pe_calM CL.cls C_reached hr (by first | decide | omega) (pv 0) (pa_cons (pe_lst (pa_cons (pv 1) pa_nil)) pa_nil))) (pg_name (i := 6) sc_sizes.nd rfl (Or.inl rfl)) (pss_cons (ps_asg (pe_calM CL.cls C_node hr (by first | decide | omega) (pv 0) (pa_cons (pv 6) pa_nil)) (pgTup (K := K) (n := 3) rfl (pgs_cons (pg_name (i := 3) sc_sizes.nd rfl (Or.inl rfl)) (pgs_cons (pg_name (i := 7) sc_sizes.nd rfl (Or.inl rfl)) (pgs_cons (pg_name (i := 8) sc_sizes.nd rfl (Or.inl rfl)) pgs_nil))))) (pss_cons (ps_set (i := 9) sc_sizes.nd rfl (Or.inl rfl) (pe_dget (hu_of hr) (pv 4) (pv 3) (fun _ _ => rfl))) (pss_cons (ps_set (i := 10) sc_sizes.nd rfl (Or.inl rfl) (pe_cal C_widened hr (by decide) rfl (pa_cons (pe_ix (ixK (K := K)) (pe_dget (hu_of hr) (pv 5) (pv 7) (fun _ _ => rfl)) pe_int (fun _ _ => rfl)) (pa_cons (pe_op op_sub (pe_op op_sub (pe_ix (ixK (K := K)) (pe_dget (hu_of hr) (pv 5) (pv 7) (fun _ _ => rfl)) pe_int (fun _ _ => rfl)) (pv 9)) pe_int) pa_nil)))) (pss_cons (ps_set (i := 11) sc_sizes.nd rfl (Or.inl rfl) (pe_cal C_widened hr (by decide) rfl (pa_cons (pe_ix (ixK (K := K)) (pe_dget (hu_of hr) (pv 5) (pv 8) (fun _ _ => rfl)) pe_int (fun _ _ => rfl)) (pa_cons (pe_op op_sub (pe_op op_sub (pe_ix (ixK (K := K)) (pe_dget (hu_of hr) (pv 5) (pv 8) (fun _ _ => rfl)) pe_int (fun _ _ => rfl)) (pv 9)) pe_int) pa_nil)))) (pss_one (ps_dput (hu_of hr) (pv 5) (pv 6) (pe_tup (pa_cons (pv 9) (pa_cons (pe_cal C_added hr (by decide) rfl (pa_cons (pv 10) (pa_cons (pe_op (catLK (K := K)) (pe_lst (pa_cons pe_int pa_nil)) (pv 11)) pa_nil))) pa_nil))) rfl))))))) (pss_cons (ps_asg (pe_dget (hu_of hr) (pv 5) (pv 1) (fun _ _ => rfl)) (pgTup (K := K) (n := 2) rfl (pgs_cons (pg_name (i := 9) sc_sizes.nd rfl (Or.inl rfl)) (pgs_cons (pg_name (i := 12) sc_sizes.nd rfl (Or.inl rfl)) pgs_nil)))) (pss_one (ps_ret (pe_cal C_widened hr (by decide) rfl (pa_cons (pv 12) (pa_cons (pv 9) pa_nil)))))))))), wq_enter h (fun ts g post h => ?l2) fun B ts g post hp => ?_⟩
    case l2 =>
      obtain ⟨_, _, _, rfl, _⟩ := h
      exact Nat.le_of_ble_eq_true rfl
    clear h
    obtain ⟨s, c, D, rfl, hg, ⟨k0, k1, k8, k2, ds, d8⟩, hp⟩ := hp
    show wQ _ _ _ _ _ [.dat _, .dat _, .dat _, .any, .any, .any, .any, .any, .any, .any, .any, .any, .any] _ _ _ _
    try dsimp only [cxOf, Cx.wish, Cx.blk]
    have hsl : 100000 ≤ sizeLine := by decide
    have dnd : D.Nodup := ds.imp fun h => by omega
    refine wq_seq (wq_for (tgt_name 3 [3] (List.mem_singleton.mpr rfl)) (wi_list (we_meth hs (fun _ _ _ => rfl) (we_var rfl ⟨s, rfl, hg, ?_⟩))))
    repeat' (wtm_at "z")
    refine ⟨s, c, rfl, hg, ⟨k0, k1, by omega, by omega⟩, fun A as hA => ⟨_, rfl, ?_⟩⟩
    have AE : ∀ e, e ∈ A → e ∈ E := fun e he => by
      obtain ⟨i, n, _, hn, rfl⟩ := (hA e).mp he
      exact k0.ent n (List.mem_of_getElem? (node_lt hn).2.2)
    have al : A.length ≤ 8 := Nat.le_trans (nodup_le (as.imp fun h => by omega) AE) k8
    refine ⟨fun n g' es' => ∃ (s1 : SG) (c1 : Nat) (Z : List Int) (e3 : Ent), e3.own = false ∧ (hs.sg g' = some s1 ∧ s1.Ok E ∧ Ext s s1 (255 * n) 0 ∧ c1 < s1.ns.length + 2) ∧ (∀ σ, den s1.ns c1 σ = den s.ns c (zer Z σ)) ∧ (∀ e, e ∈ Z → e ∉ D) ∧ (∀ e, e ∈ A.take n → e ∈ Z ∨ e ∈ D) ∧ es' = [.dat (.raw (.ref s.a)), .dat (.int (c1 : Int)), .dat (.lst (D.map .int)), e3, .any, .any, .any, .any, .any, .any, .any, .any, .any], ⟨s, c, [], .any, rfl, ⟨hg, k0, (Ext.refl s).mono (Nat.zero_le _) (Nat.le_refl 0), k1⟩, fun σ => rfl, (fun _ h => nomatch h), (fun _ h => by rw [List.take_zero] at h; cases h), rfl⟩, ?_, ?_⟩
    · rintro n x g2 es2 hx ⟨s1, c1, Z, e3, w3, ⟨h1, o1, x1, l1⟩, d1, z1, z2, rfl⟩
      obtain ⟨e, he, rfl⟩ := map_get hx
      have hn : n < A.length := (List.getElem?_eq_some_iff.mp he).1
      have xl := x1.len
      refine ⟨_, rfl, ?_⟩
      refine wq_if (wt_test (we_op (we_var rfl (we_var rfl (wr_niIL ⟨_, rfl, w_iteN (fun hd => ?_) (fun hd => ?_)⟩)))))
      · refine wq_set (we_meth hs (fun _ _ _ => rfl) (we_var rfl ⟨s1, by rw [x1.a], h1, ?_⟩))
        repeat' (wtm_at "z")
        refine ⟨s1, c1, e, false, by rw [x1.a], h1, ⟨o1, l1, k8, by omega⟩, fun c2 g3 s2 h2 o2 x2 l2 d2 => ?_⟩
        refine ⟨s2, c2, Z ++ [e], .dat (.int e), rfl, ⟨h2, o2, (x1.trans x2).mono (by omega) (Nat.le_refl 0), l2⟩, fun σ => by rw [d2, d1, zer_snoc], fun y hy => ?_, fun y hy => ?_, rfl⟩
        · rcases List.mem_append.mp hy with hy | hy
          · exact z1 y hy
          · cases List.mem_singleton.mp hy
            exact hd
        · rw [take_snoc he] at hy
          rcases List.mem_append.mp hy with hy | hy
          · exact (z2 y hy).imp (fun q => List.mem_append.mpr (.inl q)) id
          · exact .inl (List.mem_append.mpr (.inr hy))
      · refine wq_next ⟨s1, c1, Z, .dat (.int e), rfl, ⟨h1, o1, x1.mono (by omega) (Nat.le_refl 0), l1⟩, d1, z1, fun y hy => ?_, rfl⟩
        rw [take_snoc he] at hy
        rcases List.mem_append.mp hy with hy | hy
        · exact z2 y hy
        · cases List.mem_singleton.mp hy
          exact .inr hd
    · rintro g2 es2 ⟨s1, c1, Z, e3, w3, ⟨h1, o1, x1, l1⟩, d1, z1, z2, rfl⟩
      rw [List.length_map] at x1 z2
      rw [List.take_length] at z2
      have xl := x1.len
      have g1 := o1.good
      have al1 : AllIn s1.ns D c1 := zer_in k0.good g1 k1 l1 d1 (fun e he => (hA e).mpr he) z2
      have ph : ∀ p : List Int, p.Sublist D → phi s1.ns c1 p = phi s.ns c p := fun p hp => by
        show den s1.ns c1 _ = den s.ns c _
        rw [d1, zer_mem fun e he q => z1 e q (hp.subset he)]
      have fin : ∀ cs : List Int, Cnt D (phi s1.ns c1) cs → post (.lst (cs.map .int)) g2 := fun cs h => hp cs g2 s1 h1 o1 (x1.mono (by omega) (Nat.le_refl 0)) (h.congr ph)
      refine wq_seqI (fun t => t = .dct (plT D)) ?_ ?_
      · refine we_dc (tgt_tup 9 3 [9, 3] (by decide) (by decide)) (wi_enum (wa_cons (we_var rfl (wa_nil ⟨_, rfl, ?_⟩))))
        refine ⟨noOwn2 rfl rfl rfl w3, fun n acc g' => g' = g2 ∧ acc = plT (D.take n), ⟨rfl, rfl⟩, fun n x acc g3 hx hacc => ?_, fun acc g3 hacc => ?_⟩
        · obtain ⟨rfl, rfl⟩ := hacc
          obtain ⟨e, he, rfl⟩ := enum_ints hx
          have hn := (List.getElem?_eq_some_iff.mp he).1
          have et : D.take (n + 1) = D.take n ++ [e] := take_snoc he
          have hno : e ∉ D.take n := by
            have := dnd.sublist (List.take_sublist (n + 1) D)
            rw [et] at this
            intro q
            exact (List.nodup_append.mp this).2.2 e q e (by simp) rfl
          have hl : (D.take n).length = n := by
            rw [List.length_take]
            omega
          refine ⟨_, ⟨_, _, rfl, rfl⟩, noOwn2 rfl rfl rfl rfl, wt_yes ⟨rfl, ?_⟩⟩
          · refine we_var rfl ⟨rfl, we_var rfl ⟨rfl, .inl e, rfl, ?_, rfl, ?_⟩⟩
            · unfold plT
              rw [List.length_map, List.length_zipIdx, hl]
              exact Nat.lt_of_le_of_lt (show n ≤ 8 by omega) (by decide)
            · rw [et, ← plT_snoc hno, hl]
        · obtain ⟨rfl, rfl⟩ := hacc
          rw [enumT_len, List.length_map, List.take_length]
          exact ⟨rfl, rfl, rfl⟩
      rintro _ rfl
      refine wq_seq (wq_setDisp ?_)
      repeat' (wtm_at "z")
      refine ⟨Nat.le_of_ble_eq_true rfl, ?_⟩
      refine wq_seq (wq_for (tgt_name 6 [6] (List.mem_singleton.mpr rfl)) (wi_list (we_meth hs (fun _ _ _ => rfl) (we_var rfl ⟨s1, by rw [x1.a], h1, ?_⟩))))
      repeat' (wtm_at "z")
      refine ⟨s1, [c1], by rw [x1.a] <;> rfl, h1, ⟨o1, fun c' h => by rw [List.mem_singleton.mp h]; exact l1, by omega⟩, fun l rc => ⟨_, rfl, ?_⟩⟩
      have lf := reached_few o1 l1 rc k8
      refine ⟨fun n g' es' => g' = g2 ∧ ∃ (kv : List (Key × Zc.T)) (e3 e6 e7 e8 e9 e10 e11 e12 : Ent), CTab s1.ns D l n kv ∧ es' = [.dat (.raw (.ref s.a)), .dat (.int (c1 : Int)), .dat (.lst (D.map .int)), e3, .dat (.dct (plT D)), .dk kv, e6, e7, e8, e9, e10, e11, e12], ⟨rfl, _, _, .any, .any, .any, .any, .any, .any, .any, .start (by rw [List.length_map] <;> rfl) (by rw [List.length_map] <;> rfl), rfl⟩, ?_, ?_⟩
      · rintro n x g3 es3 hx ⟨rfl, kv, e3, e6, e7, e8, e9, e10, e11, e12, nt, rfl⟩
        obtain ⟨i, hi, rfl⟩ := natT_get hx
        have im := List.mem_of_getElem? hi
        have hnl : n < l.length := (List.getElem?_eq_some_iff.mp hi).1
        obtain ⟨r1, r2⟩ := rc.tp.rg i im
        obtain ⟨m, hm⟩ := node_some r1 r2
        have en : nodeT s1.ns i = .tup [.int m.e, .int (m.w : Int), .int (m.t : Int)] := by unfold nodeT; rw [hm]; rfl
        obtain ⟨c', hc', hsub⟩ := rc.sub i im
        cases List.mem_singleton.mp hc'
        have ai := al1.sub hsub
        obtain ⟨cw, gw, nw⟩ := nt.get _ (kid_w rc.tp hi hm)
        obtain ⟨ct, gt, nt'⟩ := nt.get _ (kid_t rc.tp hi hm)
        obtain ⟨w1, t1, cn⟩ := cnt_node g1 ds hm ai nw nt'
        have hpi := plc_node (D := D) hm
        have pw := plc_le (D := D) (ns := s1.ns) (i := m.w)
        have pt := plc_le (D := D) (ns := s1.ns) (i := m.t)
        have cwl := nw.len
        have ctl := nt'.len
        rw [List.length_drop] at cwl ctl
        refine ⟨_, rfl, ?_⟩
        refine wq_seq (wq_asgT (tgt_tup3 3 7 8 [3, 7, 8] (by decide) (by decide) (by decide)) (we_meth hs (fun _ _ _ => rfl) (we_var rfl ⟨s1, by rw [x1.a], h1, wm_dat (we_var rfl (wm_nil ⟨s1, i, by rw [x1.a], h1, r2, ?_⟩))⟩)))
        rw [en]
        refine ⟨_, ⟨_, _, _, rfl, rfl⟩, ?_⟩
        refine wq_seq (wq_set (we_dget (we_var rfl (we_var rfl ⟨_, _, _, rfl, rfl, plT_val (ai.here hm), ?_⟩))))
        rw [← hpi]
        refine wq_seq (wq_set (we_call (wm_dat (we_op (we_dgetOwn rfl (we_var rfl ⟨_, _, _, rfl, rfl, gw, ?_⟩))))))
        repeat' (wtm_at "z")
        refine we_dgetOwn rfl (we_var rfl ⟨_, _, _, rfl, rfl, gw, ?_⟩)
        repeat' (wtm_at "z")
        rw [show ((plc s1.ns D m.w : Nat) : Int) - ((plc s1.ns D i : Nat) : Int) - 1 = ((plc s1.ns D m.w - plc s1.ns D i - 1 : Nat) : Int) by omega]
        refine ⟨cw, _, rfl, by omega, ?_⟩
        refine wq_seq (wq_set (we_call (wm_dat (we_op (we_dgetOwn rfl (we_var rfl ⟨_, _, _, rfl, rfl, gt, ?_⟩))))))
        repeat' (wtm_at "z")
        refine we_dgetOwn rfl (we_var rfl ⟨_, _, _, rfl, rfl, gt, ?_⟩)
        repeat' (wtm_at "z")
        rw [show ((plc s1.ns D m.t : Nat) : Int) - ((plc s1.ns D i : Nat) : Int) - 1 = ((plc s1.ns D m.t - plc s1.ns D i - 1 : Nat) : Int) by omega]
        refine ⟨ct, _, rfl, by omega, ?_⟩
        refine wq_dput ?_
        repeat' (wtm_at "z")
        have ww := wid_len cw (plc s1.ns D m.w - plc s1.ns D i - 1)
        have wt' := wid_len ct (plc s1.ns D m.t - plc s1.ns D i - 1)
        refine wr_catL ?_ (wm_nil ⟨_, 0 :: wid (plc s1.ns D m.t - plc s1.ns D i - 1) ct, rfl, ⟨by omega, by rw [List.length_cons]; omega⟩, wa_nil ⟨Nat.le_of_ble_eq_true rfl, ⟨_, rfl⟩, we_var rfl ⟨_, _, rfl, rfl, by have := nt.len; omega, ?_⟩⟩⟩)
        · rw [List.length_map, wt']
          exact Nat.le_trans (show 1 + _ ≤ 100 by omega) (by decide)
        · exact ⟨rfl, _, _, _, _, _, _, _, _, _, nt.step hi rfl cn, rfl⟩
      · rintro g3 es3 ⟨rfl, kv, e3, e6, e7, e8, e9, e10, e11, e12, nt, rfl⟩
        rw [natT_len] at nt
        have hcl : c1 < 2 ∨ c1 ∈ l.take l.length := by
          rw [List.take_length]
          rcases Nat.lt_or_ge c1 2 with q | q
          · exact .inl q
          · exact .inr (rc.all c1 (List.mem_singleton.mpr rfl) q)
        obtain ⟨cs, gc, nc⟩ := nt.get c1 hcl
        have pc := plc_le (D := D) (ns := s1.ns) (i := c1)
        have cl := nc.len
        rw [List.length_drop] at cl
        refine wq_seq (wq_setT (we_dgetOwn rfl (we_var rfl ⟨_, _, _, rfl, rfl, gc, _, _, rfl, ?_⟩)))
        refine wq_ret (we_call (wm_dat (we_var rfl (wm_dat (we_var rfl (wm_nil ⟨cs, plc s1.ns D c1, rfl, by omega, fin _ (cnt_top g1 ds l1 al1 nc)⟩))))))
abbrev s_lowest : Stmt := topS 16
abbrev N_lowest : List Str := ["numerator", "denominator", "common"]
theorem sc_lowest : FnScope ["numerator", "denominator", "common"] ["numerator", "denominator"] (defScope s_lowest) := ⟨rfl, rfl, rfl, by decide +kernel, rfl, by decide +kernel, by decide +kernel⟩
theorem c_lowest  (D : Dfn K mg "lowest" s_lowest) (T : Bls mg) (hG : mg "gcd" = some (.builtin "math.gcd")) : Cal P w K mg base 1 "lowest" ["numerator", "denominator"] (spD K R [false, false] (p_low R)) := by
  obtain ⟨f, fd, F, hm⟩ := D.ex
  refine ⟨f, fd, F.ok sc_lowest (spD_len fun ts g post h => ?len) (fun cdv A outer s H vs Q XE hr h => ?body), hm, F.kp, F.bindsN fun _ _ _ _ _ _ us hl => match us, hl with | [_, _], _ => rfl⟩
  case len =>
    obtain ⟨_, _, rfl, _⟩ := h
    rfl
  case body =>
    refine ⟨_, PSs.nox (pss_cons (ps_set (i := 2) sc_lowest.nd rfl (Or.inl rfl) (pe_callBfun gcdK (by rfl) hG (pa_cons (pv 0) (pa_cons (pv 1) pa_nil)))) (pss_one (ps_ret (pe_tup (pa_cons (pe_op op_fdivW (pv 0) (pv 2)) (pa_cons (pe_op op_fdivW (pv 1) (pv 2)) pa_nil)))))), wq_enter h (fun ts g post h => ?l2) fun B ts g post hp => ?_⟩
    case l2 =>
      obtain ⟨_, _, rfl, _⟩ := h
      exact Nat.le_of_ble_eq_true rfl
    clear h
    obtain ⟨a, b, rfl, ⟨h0, ha, hb⟩, hp⟩ := hp
    show wQ _ _ _ _ _ [.dat _, .dat _, .any] _ _ _ _
    try dsimp only [cxOf, Cx.wish, Cx.blk]
    repeat' (wtm_at "z")
    refine wr_fdivW (gcd_pos h0) (gcd_lt h0 hb) ?_
    repeat' (wtm_at "z")
    refine wr_fdivW (gcd_pos h0) (gcd_lt h0 hb) ?_
    repeat' (wtm_at "z")
    exact hp
abbrev s_shares : Stmt := topS 17
abbrev N_shares : List Str := ["store", "condition", "present", "there", "numbers", "found", "entry", "others", "coming", "missing", "difference", "numerator", "denominator", "other"]
theorem sc_shares : FnScope ["store", "condition", "present", "there", "numbers", "found", "entry", "others", "coming", "missing", "difference", "numerator", "denominator", "other"] ["store", "condition", "present"] (defScope s_shares) := ⟨rfl, rfl, rfl, by decide +kernel, rfl, by decide +kernel, by decide +kernel⟩
theorem c_shares {C : Addr} {E : List Int} (hs : HasStore R C E) (CL : ClsS K C) (D : Dfn K mg "shares" s_shares) (T : Bls mg) (C_depends : CalM P w K mg base 3 C "depends" ["self", "condition"] (spD K R [false, false] (p_depends hs))) (C_restrict : CalM P w K mg base 3 C "restrict" ["self", "condition", "entry", "is_there"] (spD K R [false, false, false, false] (p_restrict hs))) (C_sizes : Cal P w K mg base 4 "sizes" ["store", "condition", "entries"] (spD K R [false, false, false] (p_sizes hs))) (C_orders : Cal P w K mg base 1 "orders" ["most"] (spD K R [false] (p_orders R))) (C_weighed : Cal P w K mg base 1 "weighed" ["counts", "numbers", "others"] (spD K R [false, false, false] (p_weighed R))) (C_lowest : Cal P w K mg base 1 "lowest" ["numerator", "denominator"] (spD K R [false, false] (p_low R))) : Cal P w K mg base 5 "shares" ["store", "condition", "present"] (spD K R [false, false, false] (p_shares hs)) := by
  obtain ⟨f, fd, F, hm⟩ := D.ex
  refine ⟨f, fd, F.ok sc_shares (spD_len fun ts g post h => ?len) (fun cdv A outer s H vs Q XE hr h => ?body), hm, F.kp, F.bindsN fun _ _ _ _ _ _ us hl => match us, hl with | [_, _, _], _ => rfl⟩
  case len =>
    obtain ⟨_, _, _, rfl, _⟩ := h
    rfl
  case body =>
    refine ⟨_, PSs.nox (pss_cons (ps_setLc (i := 3) (own := [("entry", 6)]) rfl sc_shares.nd rfl rfl (sw_true rfl rfl rfl (by decide +kernel)) (piList (K := K) (pe_calM CL.cls C_depends hr (by first | decide | omega) (pv 0) (pa_cons (pv 1) pa_nil))) (blkOk_by (N := N_shares) (sc := defScope s_shares) (own := [("entry", 6)]) (by decide +kernel)) (fun _ _ _ _ _ => (pg_name (i := 6) sc_shares.nd rfl (Or.inl rfl))) (fun _ _ _ _ _ => (pts_one (pt_cmpR (inK (K := K)) (pv 6) (pv 2) (by rfl)))) (fun _ _ _ _ _ => (pv 6))) (pss_cons (ps_set (i := 4) sc_shares.nd rfl (Or.inl rfl) (pe_cal C_orders hr (by decide) rfl (pa_cons (pe_callB (lenK (K := K)) (by rfl) T.len bt_len (pa_cons (pv 3) pa_nil)) pa_nil))) (pss_cons (ps_set (i := 5) sc_shares.nd rfl (Or.inl rfl) (pe_lst pa_nil)) (pss_cons (ps_for PassesOwn.never rfl (piList (K := K) (pv 3)) (pg_name (i := 6) sc_shares.nd rfl (Or.inr rfl)) (pss_cons (ps_setLc (i := 7) (own := [("other", 13)]) rfl sc_shares.nd rfl rfl (sw_true rfl rfl rfl (by decide +kernel)) (piList (K := K) (pv 3)) (blkOk_by (N := N_shares) (sc := defScope s_shares) (own := [("other", 13)]) (by decide +kernel)) (fun _ _ _ _ _ => (pg_name (i := 13) sc_shares.nd rfl (Or.inl rfl))) (fun _ _ _ _ _ => (pts_one (pt_cmpR op_ne (pv 13) (pv 6) (nomark _)))) (fun _ _ _ _ _ => (pv 13))) (pss_cons (ps_set (i := 8) sc_shares.nd rfl (Or.inl rfl) (pe_cal C_sizes hr (by decide) rfl (pa_cons (pv 0) (pa_cons (pe_calM CL.cls C_restrict hr (by first | decide | omega) (pv 0) (pa_cons (pv 1) (pa_cons (pv 6) (pa_cons pe_bl pa_nil)))) (pa_cons (pv 7) pa_nil))))) (pss_cons (ps_set (i := 9) sc_shares.nd rfl (Or.inl rfl) (pe_cal C_sizes hr (by decide) rfl (pa_cons (pv 0) (pa_cons (pe_calM CL.cls C_restrict hr (by first | decide | omega) (pv 0) (pa_cons (pv 1) (pa_cons (pv 6) (pa_cons pe_bl pa_nil)))) (pa_cons (pv 7) pa_nil))))) (pss_cons (ps_set (i := 10) sc_shares.nd rfl (Or.inl rfl) (pe_op op_sub (pe_cal C_weighed hr (by decide) rfl (pa_cons (pv 8) (pa_cons (pv 4) (pa_cons (pe_callB (lenK (K := K)) (by rfl) T.len bt_len (pa_cons (pv 7) pa_nil)) pa_nil)))) (pe_cal C_weighed hr (by decide) rfl (pa_cons (pv 9) (pa_cons (pv 4) (pa_cons (pe_callB (lenK (K := K)) (by rfl) T.len bt_len (pa_cons (pv 7) pa_nil)) pa_nil)))))) (pss_cons (ps_asg (pe_cal C_lowest hr (by decide) rfl (pa_cons (pv 10) (pa_cons (pe_ix (ixK (K := K)) (pv 4) (pe_callB (lenK (K := K)) (by rfl) T.len bt_len (pa_cons (pv 3) pa_nil)) (fun _ _ => rfl)) pa_nil))) (pgTup (K := K) (n := 2) rfl (pgs_cons (pg_name (i := 11) sc_shares.nd rfl (Or.inl rfl)) (pgs_cons (pg_name (i := 12) sc_shares.nd rfl (Or.inl rfl)) pgs_nil)))) (pss_one (ps_expr (pe_bm PySem.F.plainAttrs_list PySem.F.slot_list_append PySem.F.type_list_append mt_append (pv 5) (pa_cons (pe_tup (pa_cons (pv 6) (pa_cons (pv 11) (pa_cons (pv 12) pa_nil)))) pa_nil)))))))))) (pss_one (ps_ret (pv 5))))))), wq_enter h (fun ts g post h => ?l2) fun B ts g post hp => ?_⟩
    case l2 =>
      obtain ⟨_, _, _, rfl, _⟩ := h
      exact Nat.le_of_ble_eq_true rfl
    clear h
    obtain ⟨s, c, ps, rfl, hg, ⟨k0, k1, k8, k2⟩, hp⟩ := hp
    show wQ _ _ _ _ _ [.dat _, .dat _, .dat _, .any, .any, .any, .any, .any, .any, .any, .any, .any, .any, .any] _ _ _ _
    try dsimp only [cxOf, Cx.wish, Cx.blk]
    have hsl : 100000 ≤ sizeLine := by decide
    refine wq_seq (wq_set (we_lcFM (fun t => decide (unI t ∈ ps)) id (wi_list (we_meth hs (fun _ _ _ => rfl) (we_var rfl ⟨s, rfl, hg, ?_⟩)))))
    repeat' (wtm_at "z")
    refine ⟨s, c, rfl, hg, ⟨k0, k1, by omega, by omega⟩, fun A0 as hA => ⟨_, rfl, ?_⟩⟩
    have AE : ∀ e, e ∈ A0 → e ∈ E := fun e he => by
      obtain ⟨i, n, _, hn, rfl⟩ := (hA e).mp he
      exact k0.ent n (List.mem_of_getElem? (node_lt hn).2.2)
    have al0 : A0.length ≤ 8 := Nat.le_trans (nodup_le (as.imp fun h => by omega) AE) k8
    refine ⟨by rw [List.length_map]; omega, noOwn1 rfl rfl, fun t ht => ?_, ?_⟩
    · obtain ⟨e, he, rfl⟩ := List.mem_map.mp ht
      refine wt_test (we_op (we_var rfl (we_var rfl (wr_inIL ⟨_, rfl, rfl, rfl, rfl, fun _ => we_var rfl ⟨rfl, rfl, rfl⟩⟩))))
    rw [filter_ints (φ := fun e => decide (e ∈ ps))]
    have hA2 : ∀ e, e ∈ A0.filter (fun e => decide (e ∈ ps)) ↔ Asks s.ns c e ∧ e ∈ ps := fun e => by rw [List.mem_filter, hA, decide_eq_true_eq]
    have as2 : (A0.filter fun e => decide (e ∈ ps)).Pairwise (· < ·) := as.sublist List.filter_sublist
    have al2 : (A0.filter fun e => decide (e ∈ ps)).length ≤ 8 := Nat.le_trans (List.length_filter_le ..) al0
    have AE2 : ∀ e, e ∈ A0.filter (fun e => decide (e ∈ ps)) → e ∈ E := fun e he => AE e (List.mem_filter.mp he).1
    generalize A0.filter (fun e => decide (e ∈ ps)) = A at hA2 as2 al2 AE2 ⊢
    have and' : A.Nodup := as2.imp fun h => by omega
    repeat' (wtm_at "z")
    refine ⟨by rw [List.length_map]; exact al2, ?_⟩
    rw [List.length_map]
    have la : (A.map Zc.T.int).length = A.length := List.length_map ..
    refine wq_seq (wq_setL (wa_nil ⟨Nat.zero_le _, ?_⟩))
    refine wq_seq (wq_for (tgt_name 6 [6] (List.mem_singleton.mpr rfl)) (wi_list (we_var rfl ⟨_, rfl, ?_⟩)))
    refine ⟨fun n g' es' => (∃ s', hs.sg g' = some s' ∧ s'.Ok E ∧ Ext s s' (4590 * n) 0) ∧ ∃ e6 e7 e8 e9 e10 e11 e12 : Ent, es' = [.dat (.raw (.ref s.a)), .dat (.int (c : Int)), .dat (.lst (ps.map .int)), .dat (.lst (A.map .int)), .dat (facT A.length), .lst ((A.take n).map fun e => trip e (shDiff (den s.ns c) (A.filter fun x => !decide (x = e)) e) (fac A.length : Int)), e6, e7, e8, e9, e10, e11, e12, .any], ⟨⟨s, hg, k0, (Ext.refl s).mono (Nat.zero_le _) (Nat.le_refl 0)⟩, .any, .any, .any, .any, .any, .any, .any, rfl⟩, ?_, ?_⟩
    · rintro n y g2 es2 hy ⟨⟨s1, h1, o1, x1⟩, e6, e7, e8, e9, e10, e11, e12, rfl⟩
      obtain ⟨e, he, rfl⟩ := map_get hy
      have eA := List.mem_of_getElem? he
      have hn : n < A.length := (List.getElem?_eq_some_iff.mp he).1
      have l1 := x1.len
      have c1 : c < s1.ns.length + 2 := by omega
      refine ⟨_, rfl, ?_⟩
      refine wq_seq (wq_set (we_lcFM (fun t => !decide (unI t = e)) id (wi_list (we_var rfl ⟨_, rfl, by rw [la]; omega, noOwn1 rfl rfl, fun t ht => ?_, ?_⟩))))
      · obtain ⟨x, hx, rfl⟩ := List.mem_map.mp ht
        refine wt_test (we_op (we_var rfl (we_var rfl (wr_neI ⟨_, rfl, rfl, rfl, rfl, fun _ => we_var rfl ⟨rfl, rfl, rfl⟩⟩))))
      rw [filter_ints (φ := fun x => !decide (x = e))]
      have ol := others_len and' eA
      have os : (A.filter fun x => !decide (x = e)).Pairwise (· < ·) := as2.sublist List.filter_sublist
      have one : e ∉ A.filter fun x => !decide (x = e) := fun q => by simpa using (List.mem_filter.mp q).2
      generalize hDD : A.filter (fun x => !decide (x = e)) = D at ol os one ⊢
      have lD : (D.map Zc.T.int).length = D.length := List.length_map ..
      have dnd : D.Nodup := os.imp fun h => by omega
      refine wq_seq (wq_set (we_call (wm_dat (we_var rfl (wm_dat (we_meth hs (fun _ _ _ => rfl) (we_var rfl ⟨s1, by rw [x1.a], h1, ?_⟩)))))))
      repeat' (wtm_at "z")
      refine ⟨s1, c, e, true, by rw [x1.a], h1, ⟨o1, c1, k8, by omega⟩, fun c2 g3 s2 h2 o2 x2 l2 d2 => ?_⟩
      have xl2 := x2.len
      repeat' (wtm_at "z")
      refine ⟨s2, c2, D, by rw [x2.a, x1.a], h2, ⟨o2, l2, k8, by omega, os, by omega⟩, fun csA g4 s3 h3 o3 x3 nA => ?_⟩
      have xl3 := x3.len
      refine wq_seq (wq_set (we_call (wm_dat (we_var rfl (wm_dat (we_meth hs (fun _ _ _ => rfl) (we_var rfl ⟨s3, by rw [x3.a, x2.a, x1.a], h3, ?_⟩)))))))
      repeat' (wtm_at "z")
      refine ⟨s3, c, e, false, by rw [x3.a, x2.a, x1.a], h3, ⟨o3, by omega, k8, by omega⟩, fun c4 g5 s4 h4 o4 x4 l4 d4 => ?_⟩
      have xl4 := x4.len
      repeat' (wtm_at "z")
      refine ⟨s4, c4, D, by rw [x4.a, x3.a, x2.a, x1.a], h4, ⟨o4, l4, k8, by omega, os, by omega⟩, fun csB g6 s5 h5 o5 x5 nB => ?_⟩
      repeat' (wtm_at "z")
      rw [lD]
      have hlA := nA.len
      have hlB := nB.len
      refine ⟨csA, A.length, D.length, rfl, ⟨hlA, by omega, al2⟩, ?_⟩
      repeat' (wtm_at "z")
      rw [lD]
      refine ⟨csB, A.length, D.length, rfl, ⟨hlB, by omega, al2⟩, ?_⟩
      have eA' : phi s2.ns c2 = fun p => den s.ns c (put (fun x => decide (x ∈ p)) e true) := funext fun p => by
        show den s2.ns c2 _ = _
        rw [d2, x1.den o1 k1]
      have eB' : phi s4.ns c4 = fun p => den s.ns c (put (fun x => decide (x ∈ p)) e false) := funext fun p => by
        show den s4.ns c4 _ = _
        rw [d4, x3.den o3 (by omega), x2.den o2 c1, x1.den o1 k1]
      have ed : lin (gOf D.length) csA - lin (gOf D.length) csB = shDiff (den s.ns c) D e := by
        rw [cnt_wgt dnd nA, cnt_wgt dnd nB, eA', eB'] <;> rfl
      repeat' (wtm_at "z")
      rw [la, show lin (fun k => (fac k : Int) * (fac (D.length - k) : Int)) csA - lin (fun k => (fac k : Int) * (fac (D.length - k) : Int)) csB = shDiff (den s.ns c) D e from ed, show wR K R (rIx K) (facT A.length) = wR K R (rIx K) (.lst ((facs (A.length + 1)).map .int)) by rw [facT_eq]]
      repeat' (wtm_at "z")
      refine ⟨_, atI_ints (facs_get (Nat.lt_succ_self _)), ?_⟩
      have f1 := fac_pos A.length
      have f2 := fac_le8 al2
      have f3 : 40320 < 2 ^ 100 := by decide
      refine wm_nil ⟨_, _, rfl, ⟨by omega, shDiff_bound (by omega), by omega⟩, _, _, lowT_eq _ _, ?_⟩
      refine wq_drop (we_append rfl (we_tup (wa_cons (we_var rfl (wa_cons (we_var rfl (wa_cons (we_var rfl (wa_nil ⟨Nat.le_of_ble_eq_true rfl, _, rfl, ?_, ?_⟩)))))))))
      · rw [List.length_map, List.length_take]
        exact Nat.lt_of_lt_of_le (show _ < 100 by omega) (by decide)
      have et : (A.take (n + 1)).map (fun e => trip e (shDiff (den s.ns c) (A.filter fun x => !decide (x = e)) e) (fac A.length : Int)) = (A.take n).map (fun e => trip e (shDiff (den s.ns c) (A.filter fun x => !decide (x = e)) e) (fac A.length : Int)) ++ [.tup [.int e, .int (lowN (shDiff (den s.ns c) D e) (fac A.length : Int)), .int (lowD (shDiff (den s.ns c) D e) (fac A.length : Int))]] := by
        rw [take_snoc he, List.map_append, ← hDD] <;> rfl
      rw [← et]
      exact ⟨⟨s5, h5, o5, ((((x1.trans x2).trans x3).trans x4).trans x5).mono (by omega) (by omega)⟩, _, _, _, _, _, _, _, rfl⟩
    · rintro g2 es2 ⟨⟨s1, h1, o1, x1⟩, e6, e7, e8, e9, e10, e11, e12, rfl⟩
      rw [la] at x1 ⊢
      refine wq_ret (we_own rfl ?_)
      rw [List.take_length]
      exact hp A g2 s1 as2 hA2 h1 o1 (x1.mono (by omega) (Nat.le_refl 0))
abbrev s_next : Stmt := topS 20
theorem sc_next : FnScope ["draw", "many", "found", "cell"] ["draw", "many"] (defScope s_next) := ⟨rfl, rfl, rfl, by decide +kernel, rfl, by decide +kernel, by decide +kernel⟩
theorem ok_next {a : Addr} (hd : HasDraw R a) {f : Addr} {fd : FuncData} (F : FunD K "_law_next" "_law_next" (defArgs s_next) (defBody s_next) (defScope s_next) [] [] f fd) (T : Bls mg) :
    FnOk P w K mg base CX0 1 f fd ["draw", "many"] (spD K R [false, false] (p_next R a)) := by
  refine F.ok sc_next (spD_len fun ts g post h => ?_) (fun cdv A outer s H vs Q E hr h => ?_)
  · obtain ⟨m, rfl, _⟩ := h
    rfl
  obtain ⟨F0, ts, g, post, i, args, ⟨m, rfl, ⟨m0, m1⟩, hp⟩, cont⟩ := h
  cases args with
  | dat r1 args => cases args with
    | dat r2 args =>
      cases args
      cases r1
      cases r2
      obtain ⟨s, ns, p, c, d, hH, hS, hne, hi⟩ := hd.get g H i.res
      have fin : ∀ (i' c' d' r : Int), 0 ≤ i' → 0 ≤ r → r < m → Q (.int r) (upd H a (.lst [.ref s, .int i', .int c', .int d'])) := fun i' c' d' r h1 h2 h3 => by
        refine cont _ (.int r) g F0 _ ⟨Evl.Ex.refl _, fun _ h => .inl h, fun b o e nm => ?_, fun b e => ?_, fun _ h => .inl h, fun _ h => .inl h⟩ ⟨fun b o e => ?_, i.fm, hd.set g H s p c d i' c' d' i.res hH h1⟩ (.int r) (hp r h2 h3)
        · rw [upd_ne (fun z => nm (by rw [z]; exact hd.m g))]
          exact e
        · by_cases z : b = a
          · subst z
            rw [upd_same]
            intro q
            cases q
          · rw [upd_ne z]
            exact e
        · have z : b ≠ a := fun z => by
            subst z
            rw [i.fm _ (hd.m g)] at e
            cases e
          rw [upd_ne z]
          exact i.ex b o e
      have hS' : ∀ {o : HO}, upd H a o s = some (.lst (ns.map V.int)) := fun {o} => by
        rw [upd_ne (Ne.symm hne)]
        exact hS
      have hc : CDiv c m := ⟨m0, m1⟩
      have nn : ∀ x : Int, 0 ≤ x % m := fun x => Int.emod_nonneg x (by omega)
      have lt : ∀ x : Int, x % m < m := fun x => Int.emod_lt_of_pos x m0
      refine ⟨_, PSs.nox (pss_cons (ps_if (pt_cmpR op_gt (pe_ix ix_seq (pv 0) pe_int (fun _ _ => rfl)) pe_int (nomark _)) (pss_cons (ps_set (i := 2) sc_next.nd rfl (Or.inl rfl) (pe_op op_mod (pe_callTy call_int1 (by rfl) T.int bt_int (pa_cons (pe_ix ix_seq (pv 0) pe_int (fun _ _ => rfl)) pa_nil)) (pv 1))) (pss_cons (ps_asg (pe_op op_fdiv (pe_ix ix_seq (pv 0) pe_int (fun _ _ => rfl)) (pv 1)) (pg_sub (pv 0) pe_int set_list)) (pss_one (ps_ret (pv 2))))) pss_nil) (pss_cons (ps_if (pt_cmpR op_lt (pe_ix ix_seq (pv 0) pe_int (fun _ _ => rfl)) (pe_callB call_len (by rfl) T.len bt_len (pa_cons (pe_ix ix_seq (pv 0) pe_int (fun _ _ => rfl)) pa_nil)) (nomark _)) (pss_cons (ps_set (i := 3) sc_next.nd rfl (Or.inl rfl) (pe_callB call_abs (by rfl) T.abs bt_abs (pa_cons (pe_ix ix_seq (pe_ix ix_seq (pv 0) pe_int (fun _ _ => rfl)) (pe_ix ix_seq (pv 0) pe_int (fun _ _ => rfl)) (fun _ _ => rfl)) pa_nil))) (pss_cons (ps_asg (pe_op op_add (pe_ix ix_seq (pv 0) pe_int (fun _ _ => rfl)) pe_int) (pg_sub (pv 0) pe_int set_list)) (pss_cons (ps_if (pt_cmpR op_ge (pv 3) (pe_op op_pow pe_int pe_int) (nomark _)) (pss_cons (ps_asg (pe_op op_fdiv (pv 3) (pv 1)) (pg_sub (pv 0) pe_int set_list)) (pss_one (ps_ret (pe_op op_mod (pe_callTy call_int1 (by rfl) T.int bt_int (pa_cons (pv 3) pa_nil)) (pv 1))))) pss_nil) (pss_one (ps_asg (pe_op op_mod (pe_callTy call_int1 (by rfl) T.int bt_int (pa_cons (pe_op op_add (pe_op op_add (pe_op op_mul (pe_ix ix_seq (pv 0) pe_int (fun _ _ => rfl)) pe_int) (pv 3)) pe_int) pa_nil)) pe_int) (pg_sub (pv 0) pe_int set_list)))))) (pss_one (ps_asg (pe_op op_mod (pe_callTy call_int1 (by rfl) T.int bt_int (pa_cons (pe_op op_add (pe_op op_mul (pe_ix ix_seq (pv 0) pe_int (fun _ _ => rfl)) pe_int) pe_int) pa_nil)) pe_int) (pg_sub (pv 0) pe_int set_list)))) (pss_one (ps_ret (pe_op op_mod (pe_op op_fdiv (pe_callTy call_int1 (by rfl) T.int bt_int (pa_cons (pe_op op_mod (pe_op op_mul (pe_ix ix_seq (pv 0) pe_int (fun _ _ => rfl)) pe_int) pe_int) pa_nil)) pe_int) (pv 1)))))), ?_⟩
      -- if draw[2] > 0
      refine ⟨_, rfl, .inl ⟨a, _, 2, .int c, rfl, rfl, Evl.sq_of hH, rfl, c, 0, rfl, rfl, _, rfl, ?_⟩⟩
      refine ite2 (fun _ => ?_) (fun _ => ?_)
      · refine ⟨_, rfl, .inl ⟨a, _, 2, .int c, rfl, rfl, Evl.sq_of hH, rfl, .inl ⟨c, rfl, _, rfl, c, m, rfl, rfl, m0, ?_⟩⟩⟩
        refine ⟨_, rfl, .inl ⟨a, _, 2, .int c, rfl, rfl, Evl.sq_of hH, rfl, _, rfl, c, m, rfl, rfl, hc, _, rfl, a, _, 2, 2, rfl, rfl, hH, rfl, ?_⟩⟩
        exact ⟨_, rfl, fin p _ d _ hi (nn c) (lt c)⟩
      -- the last place, from it the answer
      have last : ∀ (σ : L2.St) (i' c' d' : Int) (H1 : Hp), σ[0]? = some (some (.ref a)) → σ[1]? = some (some (.int m)) → 0 ≤ i' → H1 = upd H a (.lst [.ref s, .int i', .int c', .int d']) →
          tRet (tOp (rI (fun _ j => 0 < j) fun i j => .int (i % j)) (tOp (rI CDiv fun i j => .int (i / j)) (tCB (fun xs H Q => (∃ i, xs = [.int i] ∧ Q (.int i) H) ∨ ∃ k, xs = [.bl k] ∧ Q (.int (if k then 1 else 0)) H) (tCons (tOp (rI (fun _ j => 0 < j) fun i j => .int (i % j)) (tOp (rI CMul fun i j => .int (i * j)) (tOp (rIx K) (tVar 0) (tC (.int 3))) (tC (.int 69621))) (tC (.int 2147483629))) tNil)) (tC (.int 7))) (tVar 1)) { nx := fun _ H' => Q .non H', rt := Q } σ H1 := fun σ i' c' d' H1 e0 e1 hi' eH => by
        subst eH
        exact ⟨_, e0, .inl ⟨a, _, 3, .int d', rfl, rfl, Evl.sq_of upd_same, rfl, d', 69621, rfl, rfl, .inr ⟨by decide, by decide⟩, _, 2147483629, rfl, rfl, (show (0 : Int) < 2147483629 by decide), .inl ⟨_, rfl, _, 7, rfl, rfl, ⟨by decide, by decide⟩, _, e1, _, m, rfl, rfl, m0, fin i' c' d' _ hi' (nn _) (lt _)⟩⟩⟩
      refine ⟨_, rfl, .inl ⟨a, _, 1, .int p, rfl, rfl, Evl.sq_of hH, rfl, _, rfl, .inl ⟨a, _, 0, .ref s, rfl, rfl, Evl.sq_of hH, rfl, _, ns.length, rfl, .inl ⟨_, Evl.sq_of hS, by rw [List.length_map]⟩, p, _, rfl, rfl, _, rfl, ?_⟩⟩⟩
      refine ite2 (fun hlt => ?_) (fun _ => ?_)
      · have hlt : p < (ns.length : Int) := of_decide_eq_true hlt
        obtain ⟨n, hn⟩ : ∃ n : Nat, p = (n : Int) := ⟨p.toNat, by omega⟩
        have hat : atI (ns.map V.int) p = some (.int (ns.getD n 0)) := by
          subst hn
          unfold atI ixN
          rw [if_pos hi, if_pos (by rw [List.length_map]; exact hlt)]
          have : n < ns.length := by omega
          simp [this]
        -- cell = abs(draw[0][draw[1]]); draw[1] = draw[1] + 1
        refine ⟨_, rfl, .inl ⟨a, _, 0, .ref s, rfl, rfl, Evl.sq_of hH, rfl, _, rfl, .inl ⟨a, _, 1, .int p, rfl, rfl, Evl.sq_of hH, rfl, .inl ⟨s, _, p, .int (ns.getD n 0), rfl, rfl, Evl.sq_of hS, hat, _, rfl, ?_⟩⟩⟩⟩
        refine ⟨_, rfl, .inl ⟨a, _, 1, .int p, rfl, rfl, Evl.sq_of hH, rfl, p, 1, rfl, rfl, _, rfl, a, _, 1, 1, rfl, rfl, hH, rfl, ?_⟩⟩
        refine ⟨_, rfl, 10, 18, rfl, rfl, ⟨by decide, by decide, by decide⟩, _, _, rfl, rfl, _, rfl, ?_⟩
        refine ite2 (fun _ => ?_) (fun _ => ?_)
        · refine ⟨_, rfl, _, rfl, _, m, rfl, rfl, ⟨m0, m1⟩, _, rfl, a, _, 2, 2, rfl, rfl, upd_same, rfl, ?_⟩
          refine ⟨_, rfl, .inl ⟨_, rfl, _, rfl, _, m, rfl, rfl, m0, ?_⟩⟩
          rw [upd_upd]
          exact fin (p + 1) _ d _ (by omega) (nn _) (lt _)
        · refine ⟨_, rfl, .inl ⟨a, _, 3, .int d, rfl, rfl, Evl.sq_of upd_same, rfl, d, 48271, rfl, rfl, .inr ⟨by decide, by decide⟩, _, rfl, _, _, rfl, rfl, _, 11, rfl, rfl, .inl ⟨_, rfl, _, 2147483647, rfl, rfl, (show (0 : Int) < 2147483647 by decide), _, rfl, a, _, 3, 3, rfl, rfl, upd_same, rfl, ?_⟩⟩⟩
          exact last _ (p + 1) c _ _ rfl rfl (by omega) upd_upd
      · refine ⟨_, rfl, .inl ⟨a, _, 3, .int d, rfl, rfl, Evl.sq_of hH, rfl, d, 48271, rfl, rfl, .inr ⟨by decide, by decide⟩, _, 12345, rfl, rfl, .inl ⟨_, rfl, _, 2147483647, rfl, rfl, (show (0 : Int) < 2147483647 by decide), _, rfl, a, _, 3, 3, rfl, rfl, hH, rfl, ?_⟩⟩⟩
        exact last _ p c _ _ rfl rfl hi rfl

theorem c_next {a : Addr} (hd : HasDraw R a) (D : Dfn K mg "_law_next" s_next) (T : Bls mg) : Cal P w K mg base 1 "_law_next" ["draw", "many"] (spD K R [false, false] (p_next R a)) := by
  obtain ⟨f, fd, F, hm⟩ := D.ex
  exact ⟨f, fd, ok_next hd F T, hm, F.kp, F.bindsN fun _ _ _ _ _ _ us hl => match us, hl with | [_, _], _ => rfl⟩
abbrev s_entries : Stmt := topS 21
abbrev N_entries : List Str := ["draw", "most", "entries", "last", "k"]
theorem sc_entries : FnScope ["draw", "most", "entries", "last", "k"] ["draw", "most"] (defScope s_entries) := ⟨rfl, rfl, rfl, by decide +kernel, rfl, by decide +kernel, by decide +kernel⟩
theorem c_entries {a : Addr} (D : Dfn K mg "_law_entries" s_entries) (T : Bls mg) (C_law_next : Cal P w K mg base 1 "_law_next" ["draw", "many"] (spD K R [false, false] (p_next R a))) : Cal P w K mg base 2 "_law_entries" ["draw", "most"] (spD K R [false, false] (p_entries R a)) := by
  obtain ⟨f, fd, F, hm⟩ := D.ex
  refine ⟨f, fd, F.ok sc_entries (spD_len fun ts g post h => ?len) (fun cdv A outer s H vs Q XE hr h => ?body), hm, F.kp, F.bindsN fun _ _ _ _ _ _ us hl => match us, hl with | [_, _], _ => rfl⟩
  case len =>
    obtain ⟨_, rfl, _⟩ := h
    rfl
  case body =>
    refine ⟨_, PSs.nox (pss_cons (ps_set (i := 2) sc_entries.nd rfl (Or.inl rfl) (pe_lst pa_nil)) (pss_cons (ps_set (i := 3) sc_entries.nd rfl (Or.inl rfl) (pe_cal C_law_next hr (by decide) rfl (pa_cons (pv 0) (pa_cons pe_int pa_nil)))) (pss_cons (ps_for PassesOwn.never rfl (pi_range1 (by rfl) T.range (pa_cons (pe_op op_add pe_int (pe_cal C_law_next hr (by decide) rfl (pa_cons (pv 0) (pa_cons (pv 1) pa_nil)))) pa_nil)) (pg_name (i := 4) sc_entries.nd rfl (Or.inl rfl)) (pss_cons (ps_expr (pe_bm PySem.F.plainAttrs_list PySem.F.slot_list_append PySem.F.type_list_append mt_append (pv 2) (pa_cons (pv 3) pa_nil))) (pss_one (ps_set (i := 3) sc_entries.nd rfl (Or.inl rfl) (pe_op op_add (pe_op op_add (pv 3) pe_int) (pe_op op_mul (pe_cal C_law_next hr (by decide) rfl (pa_cons (pv 0) (pa_cons pe_int pa_nil))) (pe_cal C_law_next hr (by decide) rfl (pa_cons (pv 0) (pa_cons pe_int pa_nil))))))))) (pss_one (ps_ret (pv 2)))))), wq_enter h (fun ts g post h => ?l2) fun B ts g post hp => ?_⟩
    case l2 =>
      obtain ⟨_, rfl, _⟩ := h
      exact Nat.le_of_ble_eq_true rfl
    clear h
    obtain ⟨m, rfl, ⟨m1, m8⟩, hp⟩ := hp
    show wQ _ _ _ _ _ [.dat _, .dat _, .any, .any, .any] _ _ _ _
    try dsimp only [cxOf, Cx.wish, Cx.blk]
    refine wq_seq (wq_setL (wa_nil ⟨Nat.zero_le _, ?_⟩))
    refine wq_seqI (fun t => ∃ x : Int, (0 ≤ x ∧ x < 3) ∧ t = .int x) ?_ ?_
    · repeat' (wtm_at "z")
      exact ⟨_, by omega, rfl⟩
    rintro _ ⟨x0, hx0, rfl⟩
    refine wq_seq (wq_for (tgt_name 4 [4] (List.mem_singleton.mpr rfl)) (wi_rng1 ?_))
    repeat' (wtm_at "z")
    refine ⟨by omega, fun n g' es' => g' = g ∧ ∃ (E : List Int) (x : Int) (e4 : Ent), (E.Pairwise (· < ·) ∧ E.length = n ∧ (∀ e, e ∈ E → 0 ≤ e ∧ e < x) ∧ 0 ≤ x ∧ x < 3 + 200 * (n : Int)) ∧ es' = [.dat (.raw (.ref a)), .dat (.int (m : Int)), .lst (E.map .int), .dat (.int x), e4], ⟨rfl, [], x0, .any, ⟨.nil, rfl, (fun _ h => nomatch h), by omega, by omega⟩, rfl⟩, ?_, ?_⟩
    · rintro n y g2 es2 hy ⟨rfl, E, x, e4, ⟨k1, k2, k3, k4, k5⟩, rfl⟩
      have hn : n < (rangeT 0 (1 + (r : Int)).toNat).length := (List.getElem?_eq_some_iff.mp hy).1
      rw [rangeT_len] at hn
      refine ⟨_, rfl, ?_⟩
      refine wq_seq (wq_drop (we_append rfl (we_var rfl ⟨_, rfl, ?_, ?_⟩)))
      · rw [List.length_map, k2]
        exact Nat.lt_of_lt_of_le (show n < 100 by omega) (by decide)
      refine wq_set ?_
      repeat' (wtm_at "z")
      rename_i r1 q1
      have hr : (r1 : Int) * r ≤ 89 ∧ 0 ≤ (r1 : Int) * r := by
        rcases (show r1 = 0 ∨ r1 = 1 by omega) with rfl | rfl
        · simp
        · constructor <;> omega
      refine ⟨rfl, E ++ [x], x + 1 + (r1 : Int) * r, .dat y, ⟨?_, by simp [k2], fun e he => ?_, ?_, ?_⟩, ?_⟩
      · refine List.pairwise_append.mpr ⟨k1, List.pairwise_singleton _ x, fun p hp q hq => ?_⟩
        cases List.mem_singleton.mp hq
        exact (k3 p hp).2
      · rcases List.mem_append.mp he with he | he
        · have := k3 e he
          omega
        · cases List.mem_singleton.mp he
          omega
      · omega
      · rw [Int.natCast_add]
        omega
      · rw [List.map_append] <;> rfl
    · rintro g2 es2 ⟨rfl, E, x, e4, ⟨k1, k2, k3, k4, k5⟩, rfl⟩
      rw [rangeT_len] at k2 k5
      refine wq_ret (we_own rfl ?_)
      exact hp E ⟨k1, by omega, by omega, fun e he => by have := k3 e he; omega⟩
abbrev s_tree : Stmt := topS 22
abbrev N_tree : List Str := ["draw", "entries", "depth", "form", "first"]
theorem sc_tree : FnScope ["draw", "entries", "depth", "form", "first"] ["draw", "entries", "depth"] (defScope s_tree) := ⟨rfl, rfl, rfl, by decide +kernel, rfl, by decide +kernel, by decide +kernel⟩
theorem c_tree {a : Addr} (D : Dfn K mg "_law_tree" s_tree) (T : Bls mg) (C_law_next : Cal P w K mg base 1 "_law_next" ["draw", "many"] (spD K R [false, false] (p_next R a))) :
    ∀ d : Nat, Cal P w K mg base (d + 2) "_law_tree" ["draw", "entries", "depth"] (spD K R [false, false, false] (p_tree R a d)) := by
  obtain ⟨f, fd, F, hm⟩ := D.ex
  intro d
  induction d with
  | zero =>
    have C_law_tree : Cal P w K mg base 0 "_law_tree" ["draw", "entries", "depth"] (spD K R [false, false, false] (fun _ _ _ => False)) :=
      ⟨f, fd, ⟨fun vs H Q E ⟨_, _, _, _, _, _, h, _⟩ => h.elim, fun _ _ _ _ _ _ _ _ _ _ _ _ _ ⟨_, _, _, _, _, _, h, _⟩ => h.elim⟩, hm, F.kp, F.bindsN fun _ _ _ _ _ _ us hl => match us, hl with | [_, _, _], _ => rfl⟩
    refine ⟨f, fd, F.ok sc_tree (spD_len fun ts g post h => ?len) (fun cdv A outer s H vs Q XE hr h => ?body), hm, F.kp, F.bindsN fun _ _ _ _ _ _ us hl => match us, hl with | [_, _, _], _ => rfl⟩
    case len =>
      obtain ⟨_, _, rfl, _⟩ := h
      rfl
    refine ⟨_, PSs.nox (pss_cons (ps_set (i := 3) sc_tree.nd rfl (Or.inl rfl) (pe_cal C_law_next hr (by decide) rfl (pa_cons (pv 0) (pa_cons pe_int pa_nil)))) (pss_cons (ps_if (PW.pt (pw_or (pt_cmpR op_eq (pv 2) pe_int (nomark _)) (pw_or1 (pt_cmpR op_lt (pv 3) pe_int (nomark _))))) (pss_cons (ps_if (pt_cmpR op_eq (pe_cal C_law_next hr (by decide) rfl (pa_cons (pv 0) (pa_cons pe_int pa_nil))) pe_int (nomark _)) (pss_one (ps_ret (pe_tup (pa_cons pe_str (pa_cons (pe_cal C_law_next hr (by decide) rfl (pa_cons (pv 0) (pa_cons pe_int pa_nil))) pa_nil))))) pss_nil) (pss_one (ps_ret (pe_tup (pa_cons pe_str (pa_cons (pe_ix (ixK (K := K)) (pv 1) (pe_cal C_law_next hr (by decide) rfl (pa_cons (pv 0) (pa_cons (pe_callB (lenK (K := K)) (by rfl) T.len bt_len (pa_cons (pv 1) pa_nil)) pa_nil))) (fun _ _ => rfl)) pa_nil)))))) pss_nil) (pss_cons (ps_if (pt_cmpR op_eq (pv 3) pe_int (nomark _)) (pss_one (ps_ret (pe_tup (pa_cons pe_str (pa_cons (pe_cal C_law_tree hr (by decide) rfl (pa_cons (pv 0) (pa_cons (pv 1) (pa_cons (pe_op op_sub (pv 2) pe_int) pa_nil)))) pa_nil))))) pss_nil) (pss_cons (ps_set (i := 4) sc_tree.nd rfl (Or.inl rfl) (pe_cal C_law_tree hr (by decide) rfl (pa_cons (pv 0) (pa_cons (pv 1) (pa_cons (pe_op op_sub (pv 2) pe_int) pa_nil))))) (pss_one (ps_ret (pe_tup (pa_cons (pe_ix (ixK (K := K)) (pe_lst (pa_cons pe_str (pa_cons pe_str (pa_cons pe_str pa_nil)))) (pe_op op_mod (pv 3) pe_int) (fun _ _ => rfl)) (pa_cons (pv 4) (pa_cons (pe_cal C_law_tree hr (by decide) rfl (pa_cons (pv 0) (pa_cons (pv 1) (pa_cons (pe_op op_sub (pv 2) pe_int) pa_nil)))) pa_nil)))))))))), wq_enter h (fun ts g post h => ?l2) fun B ts g post hp => ?_⟩
    case l2 =>
      obtain ⟨_, _, rfl, _⟩ := h
      exact Nat.le_of_ble_eq_true rfl
    clear h
    obtain ⟨E, k, rfl, hE0, hk, hp⟩ := hp
    show wQ _ _ _ _ _ [.dat _, .dat _, .dat _, .any, .any] _ _ _ _
    try dsimp only [cxOf, Cx.wish, Cx.blk]
    obtain rfl : k = 0 := by omega
    have hE := hE0.2.1
    have hE8 := hE0.2.2.1
    have hL : (E.map Zc.T.int).length = E.length := List.length_map ..
    repeat' (wtm_at "z")
    · exact hp (.const _) (show (0 : Int) ≤ _ ∧ _ < 2 by omega)
    · refine ix_mem h1 fun t ht => ?_
      obtain ⟨e, he, rfl⟩ := List.mem_map.mp ht
      repeat' (wtm_at "z")
      exact hp (.there e) he
  | succ d ih =>
    have C_law_tree := ih
    refine ⟨f, fd, F.ok sc_tree (spD_len fun ts g post h => ?lenS) (fun cdv A outer s H vs Q XE hr h => ?bodyS), hm, F.kp, F.bindsN fun _ _ _ _ _ _ us hl => match us, hl with | [_, _, _], _ => rfl⟩
    case lenS =>
      obtain ⟨_, _, rfl, _⟩ := h
      rfl
    refine ⟨_, PSs.nox (pss_cons (ps_set (i := 3) sc_tree.nd rfl (Or.inl rfl) (pe_cal C_law_next hr (by omega) rfl (pa_cons (pv 0) (pa_cons pe_int pa_nil)))) (pss_cons (ps_if (PW.pt (pw_or (pt_cmpR op_eq (pv 2) pe_int (nomark _)) (pw_or1 (pt_cmpR op_lt (pv 3) pe_int (nomark _))))) (pss_cons (ps_if (pt_cmpR op_eq (pe_cal C_law_next hr (by omega) rfl (pa_cons (pv 0) (pa_cons pe_int pa_nil))) pe_int (nomark _)) (pss_one (ps_ret (pe_tup (pa_cons pe_str (pa_cons (pe_cal C_law_next hr (by omega) rfl (pa_cons (pv 0) (pa_cons pe_int pa_nil))) pa_nil))))) pss_nil) (pss_one (ps_ret (pe_tup (pa_cons pe_str (pa_cons (pe_ix (ixK (K := K)) (pv 1) (pe_cal C_law_next hr (by omega) rfl (pa_cons (pv 0) (pa_cons (pe_callB (lenK (K := K)) (by rfl) T.len bt_len (pa_cons (pv 1) pa_nil)) pa_nil))) (fun _ _ => rfl)) pa_nil)))))) pss_nil) (pss_cons (ps_if (pt_cmpR op_eq (pv 3) pe_int (nomark _)) (pss_one (ps_ret (pe_tup (pa_cons pe_str (pa_cons (pe_cal C_law_tree hr (by omega) rfl (pa_cons (pv 0) (pa_cons (pv 1) (pa_cons (pe_op op_sub (pv 2) pe_int) pa_nil)))) pa_nil))))) pss_nil) (pss_cons (ps_set (i := 4) sc_tree.nd rfl (Or.inl rfl) (pe_cal C_law_tree hr (by omega) rfl (pa_cons (pv 0) (pa_cons (pv 1) (pa_cons (pe_op op_sub (pv 2) pe_int) pa_nil))))) (pss_one (ps_ret (pe_tup (pa_cons (pe_ix (ixK (K := K)) (pe_lst (pa_cons pe_str (pa_cons pe_str (pa_cons pe_str pa_nil)))) (pe_op op_mod (pv 3) pe_int) (fun _ _ => rfl)) (pa_cons (pv 4) (pa_cons (pe_cal C_law_tree hr (by omega) rfl (pa_cons (pv 0) (pa_cons (pv 1) (pa_cons (pe_op op_sub (pv 2) pe_int) pa_nil)))) pa_nil)))))))))), wq_enter h (fun ts g post h => ?l2S) fun B ts g post hp => ?_⟩
    case l2S =>
      obtain ⟨_, _, rfl, _⟩ := h
      exact Nat.le_of_ble_eq_true rfl
    clear h
    obtain ⟨E, k, rfl, hE0, hk, hp⟩ := hp
    show wQ _ _ _ _ _ [.dat _, .dat _, .dat _, .any, .any] _ _ _ _
    try dsimp only [cxOf, Cx.wish, Cx.blk]
    have hE := hE0.2.1
    have hE8 := hE0.2.2.1
    have hL : (E.map Zc.T.int).length = E.length := List.length_map ..
    repeat' (wtm_at "z")
    all_goals first
      | exact hp (.const _) (Bx.wf_const (by omega))
      | (refine ix_mem h1 fun t ht => ?_
         obtain ⟨e, he, rfl⟩ := List.mem_map.mp ht
         repeat' (wtm_at "z")
         exact hp (.there e) (Bx.wf_there he))
      | skip
    all_goals
      refine p_tree_i hE0 (by omega) fun x hx => ?_
      repeat' (wtm_at "z")
    all_goals first
      | exact hp (.neg x) hx
      | skip
    all_goals
      rcases (show (r : Int) % 3 = 0 ∨ (r : Int) % 3 = 1 ∨ (r : Int) % 3 = 2 by omega) with e | e | e
      all_goals rw [e]
      · refine ⟨_, atI_0, ?_⟩
        repeat' (wtm_at "z")
        refine p_tree_i hE0 (by omega) fun y hy => ?_
        repeat' (wtm_at "z")
        exact hp (.bin .and x y) ⟨hx, hy⟩
      · refine ⟨_, atI_1, ?_⟩
        repeat' (wtm_at "z")
        refine p_tree_i hE0 (by omega) fun y hy => ?_
        repeat' (wtm_at "z")
        exact hp (.bin .or x y) ⟨hx, hy⟩
      · refine ⟨_, rfl, ?_⟩
        repeat' (wtm_at "z")
        refine p_tree_i hE0 (by omega) fun y hy => ?_
        repeat' (wtm_at "z")
        exact hp (.bin .dif x y) ⟨hx, hy⟩
abbrev s_build : Stmt := topS 23
abbrev N_build : List Str := ["store", "tree", "first", "second"]
theorem sc_build : FnScope ["store", "tree", "first", "second"] ["store", "tree"] (defScope s_build) := ⟨rfl, rfl, rfl, by decide +kernel, rfl, by decide +kernel, by decide +kernel⟩
theorem c_build {C : Addr} {E : List Int} (hs : HasStore R C E) (CL : ClsS K C) (D : Dfn K mg "_law_build" s_build) (T : Bls mg) (C_there : CalM P w K mg base 2 C "there" ["self", "entry"] (spD K R [false, false] (p_there hs))) (C_negation : CalM P w K mg base 29 C "negation" ["self", "condition"] (spD K R [false, false] (p_neg hs 8))) (C_conjunction : CalM P w K mg base 28 C "conjunction" ["self", "first", "second"] (spD K R [false, false, false] (p_bin hs .and 8))) (C_disjunction : CalM P w K mg base 28 C "disjunction" ["self", "first", "second"] (spD K R [false, false, false] (p_bin hs .or 8))) (C_differs : CalM P w K mg base 28 C "differs" ["self", "first", "second"] (spD K R [false, false, false] (p_bin hs .dif 8))) :
    ∀ d : Nat, Cal P w K mg base (d + 30) "_law_build" ["store", "tree"] (spD K R [false, false] (p_build hs d)) := by
  obtain ⟨f, fd, F, hm⟩ := D.ex
  intro d
  induction d with
  | zero =>
    have C_law_build : Cal P w K mg base 0 "_law_build" ["store", "tree"] (spD K R [false, false] (fun _ _ _ => False)) :=
      ⟨f, fd, ⟨fun vs H Q E ⟨_, _, _, _, _, _, h, _⟩ => h.elim, fun _ _ _ _ _ _ _ _ _ _ _ _ _ ⟨_, _, _, _, _, _, h, _⟩ => h.elim⟩, hm, F.kp, F.bindsN fun _ _ _ _ _ _ us hl => match us, hl with | [_, _], _ => rfl⟩
    refine ⟨f, fd, F.ok sc_build (spD_len fun ts g post h => ?len) (fun cdv A outer s H vs Q XE hr h => ?body), hm, F.kp, F.bindsN fun _ _ _ _ _ _ us hl => match us, hl with | [_, _], _ => rfl⟩
    case len =>
      obtain ⟨_, _, rfl, _⟩ := h
      rfl
    refine ⟨_, PSs.nox (pss_cons (ps_if (pt_cmpR op_eq (pe_ix (ixK (K := K)) (pv 1) pe_int (fun _ _ => rfl)) pe_str (nomark _)) (pss_one (ps_ret (pe_ix (ixK (K := K)) (pv 1) pe_int (fun _ _ => rfl)))) pss_nil) (pss_cons (ps_if (pt_cmpR op_eq (pe_ix (ixK (K := K)) (pv 1) pe_int (fun _ _ => rfl)) pe_str (nomark _)) (pss_one (ps_ret (pe_calM CL.cls C_there hr (by first | decide | omega) (pv 0) (pa_cons (pe_ix (ixK (K := K)) (pv 1) pe_int (fun _ _ => rfl)) pa_nil)))) pss_nil) (pss_cons (ps_set (i := 2) sc_build.nd rfl (Or.inl rfl) (pe_cal C_law_build hr (by decide) rfl (pa_cons (pv 0) (pa_cons (pe_ix (ixK (K := K)) (pv 1) pe_int (fun _ _ => rfl)) pa_nil)))) (pss_cons (ps_if (pt_cmpR op_eq (pe_ix (ixK (K := K)) (pv 1) pe_int (fun _ _ => rfl)) pe_str (nomark _)) (pss_one (ps_ret (pe_calM CL.cls C_negation hr (by first | decide | omega) (pv 0) (pa_cons (pv 2) pa_nil)))) pss_nil) (pss_cons (ps_set (i := 3) sc_build.nd rfl (Or.inl rfl) (pe_cal C_law_build hr (by decide) rfl (pa_cons (pv 0) (pa_cons (pe_ix (ixK (K := K)) (pv 1) pe_int (fun _ _ => rfl)) pa_nil)))) (pss_cons (ps_if (pt_cmpR op_eq (pe_ix (ixK (K := K)) (pv 1) pe_int (fun _ _ => rfl)) pe_str (nomark _)) (pss_one (ps_ret (pe_calM CL.cls C_conjunction hr (by first | decide | omega) (pv 0) (pa_cons (pv 2) (pa_cons (pv 3) pa_nil))))) pss_nil) (pss_one (ps_ret (pe_ifExp (pt_cmpR op_eq (pe_ix (ixK (K := K)) (pv 1) pe_int (fun _ _ => rfl)) pe_str (nomark _)) (pe_calM CL.cls C_disjunction hr (by first | decide | omega) (pv 0) (pa_cons (pv 2) (pa_cons (pv 3) pa_nil))) (pe_calM CL.cls C_differs hr (by first | decide | omega) (pv 0) (pa_cons (pv 2) (pa_cons (pv 3) pa_nil)))))))))))), wq_enter h (fun ts g post h => ?l2) fun B ts g post hp => ?_⟩
    case l2 =>
      obtain ⟨_, _, rfl, _⟩ := h
      exact Nat.le_of_ble_eq_true rfl
    clear h
    obtain ⟨s, x, rfl, hg, ⟨k0, k8, wf, k5, k6⟩, hp⟩ := hp
    show wQ _ _ _ _ _ [.dat _, .dat _, .any, .any] _ _ _ _
    try dsimp only [cxOf, Cx.wish, Cx.blk]
    cases x with
    | const i =>
      dsimp only [Bx.t]
      repeat' (wtm_at "z")
      have wf : 0 ≤ i ∧ i < 2 := wf
      rcases (show i = 0 ∨ i = 1 by omega) with rfl | rfl
      · exact hp 0 g s hg k0 ((Ext.refl s).mono (Nat.zero_le _) (Nat.zero_le _)) (by omega) fun σ => by rw [den_0] <;> rfl
      · exact hp 1 g s hg k0 ((Ext.refl s).mono (Nat.zero_le _) (Nat.zero_le _)) (by omega) fun σ => by rw [den_1] <;> rfl
    | there e =>
      have wf : e ∈ E := wf
      dsimp only [Bx.t]
      repeat' (wtm_at "z")
      refine we_meth hs (fun _ _ _ => rfl) (we_var rfl ⟨s, rfl, hg, ?_⟩)
      repeat' (wtm_at "z")
      exact ⟨s, e, rfl, hg, ⟨k0, wf, by omega⟩, fun c g' s' h1 h2 h3 h4 h5 => hp c g' s' h1 h2 (h3.mono (gro_pos _) (Nat.zero_le _)) h4 h5⟩
    | neg x => exact wf.elim
    | bin f x y => exact wf.elim
  | succ d ih =>
    have C_law_build := ih
    refine ⟨f, fd, F.ok sc_build (spD_len fun ts g post h => ?lenS) (fun cdv A outer s H vs Q XE hr h => ?bodyS), hm, F.kp, F.bindsN fun _ _ _ _ _ _ us hl => match us, hl with | [_, _], _ => rfl⟩
    case lenS =>
      obtain ⟨_, _, rfl, _⟩ := h
      rfl
    refine ⟨_, PSs.nox (pss_cons (ps_if (pt_cmpR op_eq (pe_ix (ixK (K := K)) (pv 1) pe_int (fun _ _ => rfl)) pe_str (nomark _)) (pss_one (ps_ret (pe_ix (ixK (K := K)) (pv 1) pe_int (fun _ _ => rfl)))) pss_nil) (pss_cons (ps_if (pt_cmpR op_eq (pe_ix (ixK (K := K)) (pv 1) pe_int (fun _ _ => rfl)) pe_str (nomark _)) (pss_one (ps_ret (pe_calM CL.cls C_there hr (by first | decide | omega) (pv 0) (pa_cons (pe_ix (ixK (K := K)) (pv 1) pe_int (fun _ _ => rfl)) pa_nil)))) pss_nil) (pss_cons (ps_set (i := 2) sc_build.nd rfl (Or.inl rfl) (pe_cal C_law_build hr (by omega) rfl (pa_cons (pv 0) (pa_cons (pe_ix (ixK (K := K)) (pv 1) pe_int (fun _ _ => rfl)) pa_nil)))) (pss_cons (ps_if (pt_cmpR op_eq (pe_ix (ixK (K := K)) (pv 1) pe_int (fun _ _ => rfl)) pe_str (nomark _)) (pss_one (ps_ret (pe_calM CL.cls C_negation hr (by first | decide | omega) (pv 0) (pa_cons (pv 2) pa_nil)))) pss_nil) (pss_cons (ps_set (i := 3) sc_build.nd rfl (Or.inl rfl) (pe_cal C_law_build hr (by omega) rfl (pa_cons (pv 0) (pa_cons (pe_ix (ixK (K := K)) (pv 1) pe_int (fun _ _ => rfl)) pa_nil)))) (pss_cons (ps_if (pt_cmpR op_eq (pe_ix (ixK (K := K)) (pv 1) pe_int (fun _ _ => rfl)) pe_str (nomark _)) (pss_one (ps_ret (pe_calM CL.cls C_conjunction hr (by first | decide | omega) (pv 0) (pa_cons (pv 2) (pa_cons (pv 3) pa_nil))))) pss_nil) (pss_one (ps_ret (pe_ifExp (pt_cmpR op_eq (pe_ix (ixK (K := K)) (pv 1) pe_int (fun _ _ => rfl)) pe_str (nomark _)) (pe_calM CL.cls C_disjunction hr (by first | decide | omega) (pv 0) (pa_cons (pv 2) (pa_cons (pv 3) pa_nil))) (pe_calM CL.cls C_differs hr (by first | decide | omega) (pv 0) (pa_cons (pv 2) (pa_cons (pv 3) pa_nil)))))))))))), wq_enter h (fun ts g post h => ?l2S) fun B ts g post hp => ?_⟩
    case l2S =>
      obtain ⟨_, _, rfl, _⟩ := h
      exact Nat.le_of_ble_eq_true rfl
    clear h
    obtain ⟨s, x, rfl, hg, ⟨k0, k8, wf, k5, k6⟩, hp⟩ := hp
    show wQ _ _ _ _ _ [.dat _, .dat _, .any, .any] _ _ _ _
    try dsimp only [cxOf, Cx.wish, Cx.blk]
    have gs := gro_succ d
    cases x with
    | const i =>
      dsimp only [Bx.t]
      repeat' (wtm_at "z")
      have wf : 0 ≤ i ∧ i < 2 := wf
      rcases (show i = 0 ∨ i = 1 by omega) with rfl | rfl
      · exact hp 0 g s hg k0 ((Ext.refl s).mono (Nat.zero_le _) (Nat.zero_le _)) (by omega) fun σ => by rw [den_0] <;> rfl
      · exact hp 1 g s hg k0 ((Ext.refl s).mono (Nat.zero_le _) (Nat.zero_le _)) (by omega) fun σ => by rw [den_1] <;> rfl
    | there e =>
      have wf : e ∈ E := wf
      dsimp only [Bx.t]
      repeat' (wtm_at "z")
      refine we_meth hs (fun _ _ _ => rfl) (we_var rfl ⟨s, rfl, hg, ?_⟩)
      repeat' (wtm_at "z")
      exact ⟨s, e, rfl, hg, ⟨k0, wf, by omega⟩, fun c g' s' h1 h2 h3 h4 h5 => hp c g' s' h1 h2 (h3.mono (gro_pos _) (Nat.zero_le _)) h4 h5⟩
    | neg x =>
      have wf : x.wf E d := wf
      dsimp only [Bx.t]
      repeat' (wtm_at "z")
      refine ⟨s, x, rfl, hg, ⟨k0, k8, wf, by omega, by omega⟩, fun c1 g1 s1 h1 o1 x1 l1 d1 => ?_⟩
      have e1 := x1.len
      have r1 := x1.rs
      repeat' (wtm_at "z")
      refine we_meth hs (fun _ _ _ => rfl) (we_var rfl ⟨s1, by rw [x1.a], h1, ?_⟩)
      repeat' (wtm_at "z")
      refine ⟨s1, c1, by rw [x1.a], h1, ⟨o1, l1, Nat.le_trans rank_le k8, by omega, by omega⟩, fun c2 g2 s2 h2 o2 x2 l2 d2 => ?_⟩
      refine hp c2 g2 s2 h2 o2 ((x1.trans x2).mono (by omega) (by omega)) l2 fun σ => ?_
      rw [d2, d1] <;> rfl
    | bin f x y =>
      have wf : x.wf E d ∧ y.wf E d := wf
      cases f with
      | and =>
        dsimp only [Bx.t, Fo.str]
        repeat' (wtm_at "z")
        refine ⟨s, x, rfl, hg, ⟨k0, k8, wf.1, by omega, by omega⟩, fun c1 g1 s1 h1 o1 x1 l1 d1 => ?_⟩
        have e1 := x1.len
        have r1 := x1.rs
        repeat' (wtm_at "z")
        refine ⟨s1, y, by rw [x1.a], h1, ⟨o1, k8, wf.2, by omega, by omega⟩, fun c2 g2 s2 h2 o2 x2 l2 d2 => ?_⟩
        have e2 := x2.len
        have r2 := x2.rs
        repeat' (wtm_at "z")
        refine we_meth hs (fun _ _ _ => rfl) (we_var rfl ⟨s2, by rw [x2.a, x1.a], h2, ?_⟩)
        repeat' (wtm_at "z")
        refine ⟨s2, c1, c2, by rw [x2.a, x1.a], h2, ⟨o2, by omega, l2, Nat.le_trans rank_le k8, Nat.le_trans rank_le k8, by omega, by omega⟩, fun c3 g3 s3 h3 o3 x3 l3 d3 => ?_⟩
        refine hp c3 g3 s3 h3 o3 (((x1.trans x2).trans x3).mono (by omega) (by omega)) l3 fun σ => ?_
        rw [d3, x2.den o2 l1, d1, d2] <;> rfl
      | or =>
        dsimp only [Bx.t, Fo.str]
        repeat' (wtm_at "z")
        refine ⟨s, x, rfl, hg, ⟨k0, k8, wf.1, by omega, by omega⟩, fun c1 g1 s1 h1 o1 x1 l1 d1 => ?_⟩
        have e1 := x1.len
        have r1 := x1.rs
        repeat' (wtm_at "z")
        refine ⟨s1, y, by rw [x1.a], h1, ⟨o1, k8, wf.2, by omega, by omega⟩, fun c2 g2 s2 h2 o2 x2 l2 d2 => ?_⟩
        have e2 := x2.len
        have r2 := x2.rs
        repeat' (wtm_at "z")
        refine we_meth hs (fun _ _ _ => rfl) (we_var rfl ⟨s2, by rw [x2.a, x1.a], h2, ?_⟩)
        repeat' (wtm_at "z")
        refine ⟨s2, c1, c2, by rw [x2.a, x1.a], h2, ⟨o2, by omega, l2, Nat.le_trans rank_le k8, Nat.le_trans rank_le k8, by omega, by omega⟩, fun c3 g3 s3 h3 o3 x3 l3 d3 => ?_⟩
        refine hp c3 g3 s3 h3 o3 (((x1.trans x2).trans x3).mono (by omega) (by omega)) l3 fun σ => ?_
        rw [d3, x2.den o2 l1, d1, d2] <;> rfl
      | dif =>
        dsimp only [Bx.t, Fo.str]
        repeat' (wtm_at "z")
        refine ⟨s, x, rfl, hg, ⟨k0, k8, wf.1, by omega, by omega⟩, fun c1 g1 s1 h1 o1 x1 l1 d1 => ?_⟩
        have e1 := x1.len
        have r1 := x1.rs
        repeat' (wtm_at "z")
        refine ⟨s1, y, by rw [x1.a], h1, ⟨o1, k8, wf.2, by omega, by omega⟩, fun c2 g2 s2 h2 o2 x2 l2 d2 => ?_⟩
        have e2 := x2.len
        have r2 := x2.rs
        repeat' (wtm_at "z")
        refine we_meth hs (fun _ _ _ => rfl) (we_var rfl ⟨s2, by rw [x2.a, x1.a], h2, ?_⟩)
        repeat' (wtm_at "z")
        refine ⟨s2, c1, c2, by rw [x2.a, x1.a], h2, ⟨o2, by omega, l2, Nat.le_trans rank_le k8, Nat.le_trans rank_le k8, by omega, by omega⟩, fun c3 g3 s3 h3 o3 x3 l3 d3 => ?_⟩
        refine hp c3 g3 s3 h3 o3 (((x1.trans x2).trans x3).mono (by omega) (by omega)) l3 fun σ => ?_
        rw [d3, x2.den o2 l1, d1, d2] <;> rfl
abbrev s_true : Stmt := topS 24
abbrev N_true : List Str := ["tree", "present", "first", "second"]
theorem sc_true : FnScope ["tree", "present", "first", "second"] ["tree", "present"] (defScope s_true) := ⟨rfl, rfl, rfl, by decide +kernel, rfl, by decide +kernel, by decide +kernel⟩
theorem c_true  (D : Dfn K mg "_law_true" s_true) (T : Bls mg)  :
    ∀ d : Nat, Cal P w K mg base (d + 1) "_law_true" ["tree", "present"] (spD K R [false, false] (p_true R d)) := by
  obtain ⟨f, fd, F, hm⟩ := D.ex
  intro d
  induction d with
  | zero =>
    have C_law_true : Cal P w K mg base 0 "_law_true" ["tree", "present"] (spD K R [false, false] (fun _ _ _ => False)) :=
      ⟨f, fd, ⟨fun vs H Q E ⟨_, _, _, _, _, _, h, _⟩ => h.elim, fun _ _ _ _ _ _ _ _ _ _ _ _ _ ⟨_, _, _, _, _, _, h, _⟩ => h.elim⟩, hm, F.kp, F.bindsN fun _ _ _ _ _ _ us hl => match us, hl with | [_, _], _ => rfl⟩
    refine ⟨f, fd, F.ok sc_true (spD_len fun ts g post h => ?len) (fun cdv A outer s H vs Q XE hr h => ?body), hm, F.kp, F.bindsN fun _ _ _ _ _ _ us hl => match us, hl with | [_, _], _ => rfl⟩
    case len =>
      obtain ⟨_, _, _, rfl, _⟩ := h
      rfl
    refine ⟨_, PSs.nox (pss_cons (ps_if (pt_cmpR op_eq (pe_ix (ixK (K := K)) (pv 0) pe_int (fun _ _ => rfl)) pe_str (nomark _)) (pss_one (ps_ret (pe_cmpR op_eq (pe_ix (ixK (K := K)) (pv 0) pe_int (fun _ _ => rfl)) pe_int (nomark _)))) pss_nil) (pss_cons (ps_if (pt_cmpR op_eq (pe_ix (ixK (K := K)) (pv 0) pe_int (fun _ _ => rfl)) pe_str (nomark _)) (pss_one (ps_ret (pe_cmpR (inK (K := K)) (pe_ix (ixK (K := K)) (pv 0) pe_int (fun _ _ => rfl)) (pv 1) (by rfl)))) pss_nil) (pss_cons (ps_set (i := 2) sc_true.nd rfl (Or.inl rfl) (pe_cal C_law_true hr (by decide) rfl (pa_cons (pe_ix (ixK (K := K)) (pv 0) pe_int (fun _ _ => rfl)) (pa_cons (pv 1) pa_nil)))) (pss_cons (ps_if (pt_cmpR op_eq (pe_ix (ixK (K := K)) (pv 0) pe_int (fun _ _ => rfl)) pe_str (nomark _)) (pss_one (ps_ret (peNot (K := K) (pv 2)))) pss_nil) (pss_cons (ps_set (i := 3) sc_true.nd rfl (Or.inl rfl) (pe_cal C_law_true hr (by decide) rfl (pa_cons (pe_ix (ixK (K := K)) (pv 0) pe_int (fun _ _ => rfl)) (pa_cons (pv 1) pa_nil)))) (pss_cons (ps_if (pt_cmpR op_eq (pe_ix (ixK (K := K)) (pv 0) pe_int (fun _ _ => rfl)) pe_str (nomark _)) (pss_one (ps_ret (peAnd (K := K) (pv 2) (pe_one (pv 3))))) pss_nil) (pss_one (ps_ret (pe_ifExp (pt_cmpR op_eq (pe_ix (ixK (K := K)) (pv 0) pe_int (fun _ _ => rfl)) pe_str (nomark _)) (peOr (K := K) (pv 2) (pe_one (pv 3))) (pe_cmpR op_ne (pv 2) (pv 3) (nomark _))))))))))), wq_enter h (fun ts g post h => ?l2) fun B ts g post hp => ?_⟩
    case l2 =>
      obtain ⟨_, _, _, rfl, _⟩ := h
      exact Nat.le_of_ble_eq_true rfl
    clear h
    obtain ⟨E, x, ps, rfl, wf, hp⟩ := hp
    show wQ _ _ _ _ _ [.dat _, .dat _, .any, .any] _ _ _ _
    try dsimp only [cxOf, Cx.wish, Cx.blk]
    cases x with
    | const i =>
      dsimp only [Bx.t]
      repeat' (wtm_at "z")
      exact hp
    | there e =>
      dsimp only [Bx.t]
      repeat' (wtm_at "z")
      exact wr_inIL hp
    | neg x => exact wf.elim
    | bin f x y => exact wf.elim
  | succ d ih =>
    have C_law_true := ih
    refine ⟨f, fd, F.ok sc_true (spD_len fun ts g post h => ?lenS) (fun cdv A outer s H vs Q XE hr h => ?bodyS), hm, F.kp, F.bindsN fun _ _ _ _ _ _ us hl => match us, hl with | [_, _], _ => rfl⟩
    case lenS =>
      obtain ⟨_, _, _, rfl, _⟩ := h
      rfl
    refine ⟨_, PSs.nox (pss_cons (ps_if (pt_cmpR op_eq (pe_ix (ixK (K := K)) (pv 0) pe_int (fun _ _ => rfl)) pe_str (nomark _)) (pss_one (ps_ret (pe_cmpR op_eq (pe_ix (ixK (K := K)) (pv 0) pe_int (fun _ _ => rfl)) pe_int (nomark _)))) pss_nil) (pss_cons (ps_if (pt_cmpR op_eq (pe_ix (ixK (K := K)) (pv 0) pe_int (fun _ _ => rfl)) pe_str (nomark _)) (pss_one (ps_ret (pe_cmpR (inK (K := K)) (pe_ix (ixK (K := K)) (pv 0) pe_int (fun _ _ => rfl)) (pv 1) (by rfl)))) pss_nil) (pss_cons (ps_set (i := 2) sc_true.nd rfl (Or.inl rfl) (pe_cal C_law_true hr (by omega) rfl (pa_cons (pe_ix (ixK (K := K)) (pv 0) pe_int (fun _ _ => rfl)) (pa_cons (pv 1) pa_nil)))) (pss_cons (ps_if (pt_cmpR op_eq (pe_ix (ixK (K := K)) (pv 0) pe_int (fun _ _ => rfl)) pe_str (nomark _)) (pss_one (ps_ret (peNot (K := K) (pv 2)))) pss_nil) (pss_cons (ps_set (i := 3) sc_true.nd rfl (Or.inl rfl) (pe_cal C_law_true hr (by omega) rfl (pa_cons (pe_ix (ixK (K := K)) (pv 0) pe_int (fun _ _ => rfl)) (pa_cons (pv 1) pa_nil)))) (pss_cons (ps_if (pt_cmpR op_eq (pe_ix (ixK (K := K)) (pv 0) pe_int (fun _ _ => rfl)) pe_str (nomark _)) (pss_one (ps_ret (peAnd (K := K) (pv 2) (pe_one (pv 3))))) pss_nil) (pss_one (ps_ret (pe_ifExp (pt_cmpR op_eq (pe_ix (ixK (K := K)) (pv 0) pe_int (fun _ _ => rfl)) pe_str (nomark _)) (peOr (K := K) (pv 2) (pe_one (pv 3))) (pe_cmpR op_ne (pv 2) (pv 3) (nomark _))))))))))), wq_enter h (fun ts g post h => ?l2S) fun B ts g post hp => ?_⟩
    case l2S =>
      obtain ⟨_, _, _, rfl, _⟩ := h
      exact Nat.le_of_ble_eq_true rfl
    clear h
    obtain ⟨E, x, ps, rfl, wf, hp⟩ := hp
    show wQ _ _ _ _ _ [.dat _, .dat _, .any, .any] _ _ _ _
    try dsimp only [cxOf, Cx.wish, Cx.blk]
    cases x with
    | const i =>
      dsimp only [Bx.t]
      repeat' (wtm_at "z")
      exact hp
    | there e =>
      dsimp only [Bx.t]
      repeat' (wtm_at "z")
      exact wr_inIL hp
    | neg x =>
      have wf : x.wf E d := wf
      dsimp only [Bx.t]
      repeat' (wtm_at "z")
      refine ⟨E, x, ps, rfl, wf, ?_⟩
      repeat' (wtm_at "z")
      exact hp
    | bin f x y =>
      have wf : x.wf E d ∧ y.wf E d := wf
      have hp : post (.bl (f.op (x.sem fun e => decide (e ∈ ps)) (y.sem fun e => decide (e ∈ ps)))) g := hp
      cases f with
      | and =>
        dsimp only [Bx.t, Fo.str]
        repeat' (wtm_at "z")
        refine ⟨E, x, ps, rfl, wf.1, ?_⟩
        generalize x.sem (fun e => decide (e ∈ ps)) = b1 at hp ⊢
        repeat' (wtm_at "z")
        refine ⟨E, y, ps, rfl, wf.2, ?_⟩
        generalize y.sem (fun e => decide (e ∈ ps)) = b2 at hp ⊢
        repeat' (wtm_at "z")
        all_goals (cases b1 <;> cases b2 <;> first | exact hp | contradiction)
      | or =>
        dsimp only [Bx.t, Fo.str]
        repeat' (wtm_at "z")
        refine ⟨E, x, ps, rfl, wf.1, ?_⟩
        generalize x.sem (fun e => decide (e ∈ ps)) = b1 at hp ⊢
        repeat' (wtm_at "z")
        refine ⟨E, y, ps, rfl, wf.2, ?_⟩
        generalize y.sem (fun e => decide (e ∈ ps)) = b2 at hp ⊢
        repeat' (wtm_at "z")
        all_goals (cases b1 <;> cases b2 <;> first | exact hp | contradiction)
      | dif =>
        dsimp only [Bx.t, Fo.str]
        repeat' (wtm_at "z")
        refine ⟨E, x, ps, rfl, wf.1, ?_⟩
        generalize x.sem (fun e => decide (e ∈ ps)) = b1 at hp ⊢
        repeat' (wtm_at "z")
        refine ⟨E, y, ps, rfl, wf.2, ?_⟩
        generalize y.sem (fun e => decide (e ∈ ps)) = b2 at hp ⊢
        repeat' (wtm_at "z")
        all_goals (cases b1 <;> cases b2 <;> first | exact hp | contradiction)
abbrev s_common : Stmt := topS 26
abbrev N_common : List Str := ["first", "second", "k", "quotient"]
theorem sc_common : FnScope ["first", "second", "k", "quotient"] ["first", "second"] (defScope s_common) := ⟨rfl, rfl, rfl, by decide +kernel, rfl, by decide +kernel, by decide +kernel⟩
theorem c_common  (D : Dfn K mg "_law_common" s_common) (T : Bls mg)  : Cal P w K mg base 1 "_law_common" ["first", "second"] (spD K R [false, false] (p_common R)) := by
  obtain ⟨f, fd, F, hm⟩ := D.ex
  refine ⟨f, fd, F.ok sc_common (spD_len fun ts g post h => ?len) (fun cdv A outer s H vs Q XE hr h => ?body), hm, F.kp, F.bindsN fun _ _ _ _ _ _ us hl => match us, hl with | [_, _], _ => rfl⟩
  case len =>
    obtain ⟨_, _, rfl, _⟩ := h
    rfl
  case body =>
    refine ⟨_, PSs.nox (pss_cons (ps_for PassesOwn.never rfl (pi_range1 (by rfl) T.range (pa_cons pe_int pa_nil)) (pg_name (i := 2) sc_common.nd rfl (Or.inl rfl)) (pss_cons (ps_if (pt_cmpR op_eq (pv 1) pe_int (nomark _)) (pss_one ps_break) pss_nil) (pss_cons (ps_set (i := 3) sc_common.nd rfl (Or.inl rfl) (pe_op op_fdivW (pv 0) (pv 1))) (pss_one (ps_par (i := 0) (j := 1) rfl sc_common.nd rfl rfl (by decide) rfl rfl (pa_cons (pv 1) (pa_cons (pe_op op_sub (pv 0) (pe_op op_mulW (pv 1) (pv 3))) pa_nil)) rfl))))) (pss_one (ps_ret (pv 0)))), wq_enter h (fun ts g post h => ?l2) fun B ts g post hp => ?_⟩
    case l2 =>
      obtain ⟨_, _, rfl, _⟩ := h
      exact Nat.le_of_ble_eq_true rfl
    clear h
    obtain ⟨a, b, rfl, ⟨ha, hb⟩, hp⟩ := hp
    show wQ _ _ _ _ _ [.dat _, .dat _, .any, .any] _ _ _ _
    try dsimp only [cxOf, Cx.wish, Cx.blk]
    refine wq_seq (wq_for (tgt_name 2 [2] (List.mem_singleton.mpr rfl)) (wi_rng1 (wa_cons (we_int (wa_nil ⟨_, rfl, by omega, ?_⟩)))))
    refine ⟨fun n g' es' => g' = g ∧ ∃ (x y : Nat) (e2 e3 : Ent), Euc a b n x y ∧ es' = [.dat (.int (x : Int)), .dat (.int (y : Int)), e2, e3], ⟨rfl, a, b, .any, .any, Euc.start a b, rfl⟩, ?_, ?_⟩
    · rintro n z g2 es2 hz ⟨rfl, x, y, e2, e3, eu, rfl⟩
      refine ⟨_, rfl, ?_⟩
      refine wq_seq (wq_if (wt_test (we_op (we_var rfl (we_int (wr_eqI ⟨_, rfl, w_iteD (fun h => ?_) (fun h => ?_)⟩))))))
      · refine wq_break (wq_ret (we_var rfl ?_))
        have hy : y = 0 := by omega
        subst hy
        rw [eu.done]
        exact hp
      · have hy : y ≠ 0 := fun q => h (by rw [q]; rfl)
        have ey : (x : Int) - (y : Int) * ((x : Int) / (y : Int)) = ((x % y : Nat) : Int) := by
          have := Int.emod_def (x : Int) (y : Int)
          rw [← Int.natCast_emod] at this
          exact this.symm
        obtain ⟨hxl, hyl⟩ := eu.2.1 _ ha hb
        have hq : (x : Int) / (y : Int) = ((x / y : Nat) : Int) := (Int.natCast_ediv x y).symm
        have hql : x / y < 2 ^ 100 := Nat.lt_of_le_of_lt (Nat.div_le_self _ _) hxl
        refine wq_next (wq_seq (wq_set (we_op (we_var rfl (we_var rfl (wr_fdivW (by omega) (by omega) ?_))))))
        rw [hq] at ey ⊢
        refine wq_par (wa_cons (we_var rfl (wa_cons (we_op (we_var rfl (we_op (we_var rfl (we_var rfl (wr_mulW (by omega) (by rw [Int.natAbs_natCast]; exact hql) (wr_int0 (wa_nil ⟨_, _, rfl, rfl, y, x % y, .dat z, .dat (.int ((x / y : Nat) : Int)), eu.step hy, ?_⟩)))))))))))
        rw [ey] <;> rfl
    · rintro g2 es2 ⟨rfl, x, y, e2, e3, eu, rfl⟩
      rw [rangeT_len] at eu
      have hy : y = 0 := eu.fin ha hb
      subst hy
      refine wq_ret (we_var rfl ?_)
      rw [eu.done]
      exact hp
abbrev s_draw : Stmt := topS 19
abbrev N_draw : List Str := ["script"]
theorem sc_draw : FnScope ["script"] ["script"] (defScope s_draw) := ⟨rfl, rfl, rfl, by decide +kernel, rfl, by decide +kernel, by decide +kernel⟩
def spDraw (K : PySem.W.Frag) : Sp := fun vs H Q _ => ∃ (p : Addr) (ns : List Int), vs = [.ref p] ∧ SqL K H p (ns.map V.int) ∧ ∀ s a, H s = none → (upd H s (.lst (ns.map V.int))) a = none → a ≠ s → Q (.ref a) (upd (upd H s (.lst (ns.map V.int))) a (.lst [.ref s, .int 0, .int 0, .int 17]))
theorem c_draw (D : Dfn K mg "_law_draw" s_draw) (T : Bls mg) : Cal P w K mg base 1 "_law_draw" ["script"] (spDraw K) := by
  obtain ⟨f, fd, F, hm⟩ := D.ex
  refine ⟨f, fd, F.ok sc_draw (fun vs H Q E h => ?len) (fun cdv A outer s H vs Q E hr h => ?body), hm, F.kp, F.bindsN fun _ _ _ _ _ _ us hl => match us, hl with | [_], _ => rfl⟩
  case len =>
    obtain ⟨_, _, rfl, _⟩ := h
    rfl
  refine ⟨_, PSs.nox (pss_one (ps_ret (pe_lst (pa_cons (pe_callTy (listK (K := K)) (by rfl) T.list bt_list (pa_cons (pv 0) pa_nil)) (pa_cons pe_int (pa_cons pe_int (pa_cons pe_int pa_nil))))))), ?_⟩
  obtain ⟨p, ns, rfl, hS, hQ⟩ := h
  refine ⟨_, rfl, p, _, rfl, .inl hS, fun l hl => ⟨Nat.le_of_ble_eq_true rfl, fun a ha => hQ l a hl ha ?_⟩⟩
  rintro rfl
  rw [upd_same] at ha
  cases ha
abbrev s_law : Stmt := topS 28
abbrev N_law : List Str := ["script", "draw", "entries", "tree", "present", "store", "condition", "under", "total", "entry", "numerator", "denominator", "over"]
theorem sc_law : FnScope ["script", "draw", "entries", "tree", "present", "store", "condition", "under", "total", "entry", "numerator", "denominator", "over"] ["script"] (defScope s_law) := ⟨rfl, rfl, rfl, by decide +kernel, rfl, by decide +kernel, by decide +kernel⟩
def spLaw (K : PySem.W.Frag) : Sp := fun vs H Q _ => ∃ (a : Addr) (ns : List Int), vs = [.ref a] ∧ SqL K H a (ns.map V.int) ∧ ∀ H', Q (.bl true) H'
theorem ok_law {f : Addr} {fd : FuncData} {C fi : Addr} {fdi : FuncData} (gD : mg "Diagrams" = some (.ref C)) (MK : Mk K C fi) (OI : FnOk P w K mg base CX0 1 fi fdi ["self"] (spInit C)) (BI : Binds K fdi ["self"] []) (F : FunD K "law" "law" (defArgs s_law) (defBody s_law) (defScope s_law) [] [] f fd) (T : Bls mg) (C_law_draw : Cal P w K mg base 1 "_law_draw" ["script"] (spDraw K)) (C_law_entries : ∀ a s ns, Cal P w K mg base 2 "_law_entries" ["draw", "most"] (spD K (Rdraw a s ns) [false, false] (p_entries (Rdraw a s ns) a))) (C_law_next : ∀ a s ns E, Cal P w K mg base 1 "_law_next" ["draw", "many"] (spD K (Rboth C E (Rdraw a s ns)) [false, false] (p_next (Rboth C E (Rdraw a s ns)) a))) (C_law_tree : ∀ a s ns E, Cal P w K mg base 7 "_law_tree" ["draw", "entries", "depth"] (spD K (Rboth C E (Rdraw a s ns)) [false, false, false] (p_tree (Rboth C E (Rdraw a s ns)) a 5))) (C_law_build : ∀ a s ns E, Cal P w K mg base 35 "_law_build" ["store", "tree"] (spD K (Rboth C E (Rdraw a s ns)) [false, false] (p_build (Rboth.store C E (Rdraw a s ns)) 5))) (C_law_true : ∀ a s ns E, Cal P w K mg base 6 "_law_true" ["tree", "present"] (spD K (Rboth C E (Rdraw a s ns)) [false, false] (p_true (Rboth C E (Rdraw a s ns)) 5))) (C_law_common : ∀ a s ns E, Cal P w K mg base 1 "_law_common" ["first", "second"] (spD K (Rboth C E (Rdraw a s ns)) [false, false] (p_common (Rboth C E (Rdraw a s ns))))) (C_shares : ∀ a s ns E, Cal P w K mg base 5 "shares" ["store", "condition", "present"] (spD K (Rboth C E (Rdraw a s ns)) [false, false, false] (p_shares (Rboth.store C E (Rdraw a s ns))))) : FnG P w K mg base 37 f fd ["script"] (spLaw K) := by
  refine okG F sc_law (fun vs H Q XE h => ?len) (fun cdv A outer s H vs Q XE gd hr h => ?body)
  case len =>
    obtain ⟨_, _, rfl, _⟩ := h
    rfl
  refine ⟨_, PSs.nox (pss_cons (ps_set (i := 1) sc_law.nd rfl (Or.inr rfl) (pe_cal C_law_draw hr (by decide) rfl (pa_cons (pv 0) pa_nil))) (pss_ex fun a => pss_ex fun s => pss_ex fun ns => pss_cons (ps_set (i := 2) sc_law.nd rfl (Or.inl rfl) (pe_cal (C_law_entries a s ns) hr (by decide) rfl (pa_cons (pv 1) (pa_cons pe_int pa_nil)))) (pss_ex fun E => (pss_cons (ps_set (i := 3) sc_law.nd rfl (Or.inl rfl) (pe_cal (C_law_tree a s ns E) hr (by decide) rfl (pa_cons (pv 1) (pa_cons (pv 2) (pa_cons (pe_op op_add pe_int (pe_cal (C_law_next a s ns E) hr (by decide) rfl (pa_cons (pv 1) (pa_cons pe_int pa_nil)))) pa_nil))))) (pss_cons (ps_setLc (i := 4) (own := [("entry", 9)]) rfl sc_law.nd rfl rfl (sw_true rfl rfl rfl (by decide +kernel)) (piList (K := K) (pv 2)) (blkOk_by (N := N_law) (sc := defScope s_law) (own := [("entry", 9)]) (by decide +kernel)) (fun _ _ _ _ _ => (pg_name (i := 9) sc_law.nd rfl (Or.inl rfl))) (fun _ _ _ _ _ => (pts_one (ptTru (K := K) (pe_cal (C_law_next a s ns E) hr (by decide) rfl (pa_cons (pv 1) (pa_cons pe_int pa_nil)))))) (fun _ _ _ _ _ => (pv 9))) (pss_cons (ps_set (i := 5) sc_law.nd rfl (Or.inl rfl) (pe_make0 MK OI (hr.mono (by decide)) (by rfl) gD BI .nil pass0)) (pss_cons (ps_set (i := 6) sc_law.nd rfl (Or.inl rfl) (pe_cal (C_law_build a s ns E) hr (by decide) rfl (pa_cons (pv 5) (pa_cons (pv 3) pa_nil)))) (pss_cons (ps_set (i := 7) sc_law.nd rfl (Or.inl rfl) pe_int) (pss_cons (ps_set (i := 8) sc_law.nd rfl (Or.inl rfl) pe_int) (pss_cons (ps_for PassesOwn.never rfl (piList (K := K) (pe_cal (C_shares a s ns E) hr (by decide) rfl (pa_cons (pv 5) (pa_cons (pv 6) (pa_cons (pv 4) pa_nil))))) (pgTup (K := K) (n := 3) rfl (pgs_cons (pg_name (i := 9) sc_law.nd rfl (Or.inl rfl)) (pgs_cons (pg_name (i := 10) sc_law.nd rfl (Or.inl rfl)) (pgs_cons (pg_name (i := 11) sc_law.nd rfl (Or.inl rfl)) pgs_nil)))) (pss_cons (ps_if (PW.pt (pw_or (pt_cmpR (niK (K := K)) (pv 9) (pv 4) (by rfl)) (pw_or (pt_cmpR op_lt (pv 11) pe_int (nomark _)) (pw_or1 (pt_cmpR op_gt (pe_callB call_abs (by rfl) T.abs bt_abs (pa_cons (pv 10) pa_nil)) (pv 11) (nomark _)))))) (pss_one (ps_ret pe_bl)) pss_nil) (pss_cons (ps_if (pt_cmpR op_ne (pe_cal (C_law_common a s ns E) hr (by decide) rfl (pa_cons (pe_callB call_abs (by rfl) T.abs bt_abs (pa_cons (pv 10) pa_nil)) (pa_cons (pv 11) pa_nil))) pe_int (nomark _)) (pss_one (ps_ret pe_bl)) pss_nil) (pss_cons (ps_set (i := 8) sc_law.nd rfl (Or.inl rfl) (pe_op op_add (pe_op op_mul (pv 8) (pv 11)) (pe_op op_mul (pv 10) (pv 7)))) (pss_one (ps_set (i := 7) sc_law.nd rfl (Or.inl rfl) (pe_op op_mul (pv 7) (pv 11)))))))) (pss_cons (ps_set (i := 12) sc_law.nd rfl (Or.inl rfl) (pe_op op_sub (pe_callTy call_int1 (by rfl) T.int bt_int (pa_cons (pe_cal (C_law_true a s ns E) hr (by decide) rfl (pa_cons (pv 3) (pa_cons (pv 4) pa_nil))) pa_nil)) (pe_callTy call_int1 (by rfl) T.int bt_int (pa_cons (pe_cal (C_law_true a s ns E) hr (by decide) rfl (pa_cons (pv 3) (pa_cons (pe_lst pa_nil) pa_nil))) pa_nil)))) (pss_one (ps_ret (pe_cmpR op_eq (pv 8) (pe_op op_mul (pv 12) (pv 7)) (nomark _))))))))))))))), ?_⟩
  obtain ⟨p, ns, rfl, hS, hQ⟩ := h
  refine ⟨_, rfl, p, ns, rfl, hS, fun s a hs ha hne => ⟨a, s, ns, ?_⟩⟩
  have i0 : (Rdraw a s ns).I () (fun _ => none) (upd (upd H s (.lst (ns.map V.int))) a (.lst [.ref s, .int 0, .int 0, .int 17])) := ⟨fun _ _ e => (by cases e), fun _ _ => rfl, 0, 0, 17, upd_same, (upd_ne (Ne.symm hne)).trans upd_same, hne, Int.le_refl _⟩
  generalize upd (upd H s (.lst (ns.map V.int))) a (.lst [.ref s, .int 0, .int 0, .int 17]) = H1 at i0 ⊢
  have ok : Ok K (Rdraw a s ns) ⟨(), fun _ => none, H1⟩ () [.any, .dat (.raw (.ref a)), .any, .any, .any, .any, .any, .any, .any, .any, .any, .any, .any] (fun _ => none) ((L2.start N_law [.ref p]).set 1 (some (.ref a))) H1 := by
    refine ⟨i0, .refl, rfl, fun j e q => ?_, fun j k e e' b n q1 q2 q3 q4 q5 q6 => ?_⟩
    · match j, q with
      | 0, q => cases q; exact ⟨_, rfl, trivial⟩
      | 1, q => cases q; exact ⟨_, rfl, _, rfl, .raw _⟩
      | 2, q => cases q; exact ⟨_, rfl, trivial⟩
      | 3, q => cases q; exact ⟨_, rfl, trivial⟩
      | 4, q => cases q; exact ⟨_, rfl, trivial⟩
      | 5, q => cases q; exact ⟨_, rfl, trivial⟩
      | 6, q => cases q; exact ⟨_, rfl, trivial⟩
      | 7, q => cases q; exact ⟨_, rfl, trivial⟩
      | 8, q => cases q; exact ⟨_, rfl, trivial⟩
      | 9, q => cases q; exact ⟨_, rfl, trivial⟩
      | 10, q => cases q; exact ⟨_, rfl, trivial⟩
      | 11, q => cases q; exact ⟨_, rfl, trivial⟩
      | 12, q => cases q; exact ⟨_, rfl, trivial⟩
    · match j, q1 with
      | 0, q => cases q; cases q3
      | 1, q => cases q; cases q3
      | 2, q => cases q; cases q3
      | 3, q => cases q; cases q3
      | 4, q => cases q; cases q3
      | 5, q => cases q; cases q3
      | 6, q => cases q; cases q3
      | 7, q => cases q; cases q3
      | 8, q => cases q; cases q3
      | 9, q => cases q; cases q3
      | 10, q => cases q; cases q3
      | 11, q => cases q; cases q3
      | 12, q => cases q; cases q3
  refine (?main : ∀ (B : Bs (Rdraw a s ns)) (g : (Rdraw a s ns).G), wQ K (Rdraw a s ns) B _ g [.any, .dat (.raw (.ref a)), .any, .any, .any, .any, .any, .any, .any, .any, .any, .any, .any] (fun _ _ => False) (fun t _ => t = .bl true) (fun _ _ => False) (fun _ _ => False)) ⟨(), fun _ => none, H1⟩ () _ _ _ ok _ ⟨fun g' es' F' σ' H' _ ok q => q.elim, fun v t g' F' H' _ i tr r q => ?rt, fun _ _ _ _ _ _ _ q => q.elim, fun _ _ _ _ _ _ _ q => q.elim⟩
  case rt =>
    subst q
    cases r
    exact hQ _
  case main =>
    clear ok i0 hQ
    intro B g0
    try dsimp only [cxOf, Cx.wish, Cx.blk]
    repeat' (wtm_at "z")
    refine ⟨⟨by decide, by decide⟩, fun E hE5 => ?_⟩
    have hE5 : EOk 8 E := hE5
    have hE : EOk 8 E := hE5.wide (by omega)
    have eL : (E.map Zc.T.int).length = E.length := List.length_map ..
    have e1 := hE.2.1
    have e5 := hE5.2.2.1
    refine wq_ex E (wq_both C E fun B => ?_)
    refine (?_ : ∀ (g : (Rboth C E (Rdraw a s ns)).G), (Rboth.store C E (Rdraw a s ns)).sg g = none → wQ K _ B _ g _ _ _ _ _) (g0, none) rfl
    intro g hg0
    revert hg0
    generalize (Rboth.store C E (Rdraw a s ns)) = hs
    intro hg0
    revert B hg0 g hs
    generalize Rboth C E (Rdraw a s ns) = R
    intro B g hs hg0
    repeat' (wtm_at "z")
    refine p_tree_i hE ?_ fun x hx => ?_
    · omega
    repeat' (wtm_at "z")
    refine we_lcSub (wi_list (we_var rfl ⟨_, rfl, by rw [List.length_map]; omega, noOwn1 rfl rfl, Nat.le_of_ble_eq_true rfl, fun t ht => ?_, fun ys hys => ?_⟩))
    · obtain ⟨e, _, rfl⟩ := List.mem_map.mp ht
      repeat' (wtm_at "z")
      exact ⟨rfl, rfl⟩
    obtain ⟨ps, rfl, hps⟩ := sub_ints hys
    have hpsE : ∀ e, e ∈ ps → e ∈ E := fun e he => hps.subset he
    have ps5 : ps.length ≤ 8 := Nat.le_trans hps.length_le e5
    have psa : ps.Pairwise (· < ·) := hE.1.sublist hps
    refine wq_seq (wq_set (we_newStore hs ⟨hg0, fun s0 n0 r0 k0 => ?_⟩))
    have h0 := hs.sg_set g s0
    generalize hs.set g s0 = g1 at h0 ⊢
    repeat' (wtm_at "z")
    refine ⟨s0, x, rfl, h0, ⟨k0, by omega, hx, by rw [n0]; decide, by rw [r0]; decide⟩, fun c g2 s2 hsg o1 x1 l1 d1 => ?_⟩
    have sa : s2.a = s0.a := x1.a
    have gr : gro 5 = 7968 := rfl
    have hsl : 100000 ≤ sizeLine := by decide
    have nl : s2.ns.length + 40000 < 100000 := by
      have := x1.len
      rw [n0, List.length_nil] at this
      omega
    rw [← sa]
    repeat' (wtm_at "z")
    refine wq_for (tgt_tup3 9 10 11 [9, 10, 11] (by decide) (by decide) (by decide)) (wi_list (we_call ?_))
    repeat' (wtm_at "z")
    refine ⟨s2, c, ps, rfl, hsg, ⟨o1, l1, hE.2.2.1, nl⟩, fun A g5 s5 Aa hA h5 o5 x5 => ⟨_, rfl, ?_⟩⟩
    have nd : A.Nodup := Aa.imp fun h => by omega
    have A8 : A.length ≤ 8 := Nat.le_trans (nodup_le nd fun e he => ((hA e).mp he).2) ps5
    have fp := fac_pos A.length
    have f8 := fac_le8 A8
    have big : 40320 < 2 ^ 100 := by decide
    refine ⟨fun n g' es' => g' = g5 ∧ ∃ (un tot : Int) (e9 e10 e11 : Ent), (0 < un ∧ tot * (fac A.length : Int) = un * ((A.take n).map fun e => shDiff (den s2.ns c) (A.filter fun x => !decide (x = e)) e).sum) ∧ es' = [.any, .dat (.raw (.ref a)), .dat (.lst (E.map .int)), .dat x.t, .dat (.lst (ps.map .int)), .dat (.raw (.ref s2.a)), .dat (.int (c : Int)), .dat (.int un), .dat (.int tot), e9, e10, e11, .any], ⟨rfl, 1, 0, .any, .any, .any, ⟨by decide, by simp⟩, rfl⟩, ?_, ?_⟩
    · rintro n y g6 es6 hy ⟨rfl, un, tot, e9, e10, e11, ⟨u1, u2⟩, rfl⟩
      rw [List.getElem?_map] at hy
      obtain ⟨e, he, rfl⟩ := Option.map_eq_some_iff.mp hy
      have eA := List.mem_of_getElem? he
      have ep : e ∈ ps := ((hA e).mp eA).2
      have se := take_snoc he
      have sle := shares_le (F := den s2.ns c) nd eA
      have ssum : ((A.take (n + 1)).map fun e => shDiff (den s2.ns c) (A.filter fun x => !decide (x = e)) e).sum = ((A.take n).map fun e => shDiff (den s2.ns c) (A.filter fun x => !decide (x = e)) e).sum + shDiff (den s2.ns c) (A.filter fun x => !decide (x = e)) e := by
        rw [se, List.map_append, List.sum_append, List.map_cons, List.map_nil, List.sum_cons, List.sum_nil, Int.add_zero]
      unfold trip
      obtain ⟨f1, f2, f3, f4, f5⟩ := low_facts (a := shDiff (den s2.ns c) (A.filter fun x => !decide (x = e)) e) (b := (fac A.length : Int)) (by omega) (by omega)
      generalize shDiff (den s2.ns c) (A.filter fun x => !decide (x = e)) e = df at sle ssum f1 f2 f3 f4 f5 ⊢
      generalize lowN df (fac A.length : Int) = nu at f2 f3 f4 ⊢
      generalize lowD df (fac A.length : Int) = de at f1 f2 f3 f4 f5 ⊢
      refine ⟨_, ⟨_, _, _, rfl, rfl⟩, ?_⟩
      refine wq_seq (wq_if (wt_or (wt_test (we_op (we_var rfl (we_var rfl (wr_niIL ⟨_, rfl, ?_⟩)))))))
      rw [decide_eq_true ep]
      rw [if_neg (by decide)]
      repeat' (wtm_at "z")
      all_goals first
        | (exfalso; omega)
        | (rename_i hgt; exfalso; split at hgt <;> omega)
        | skip
      have en : (if nu < 0 then -nu else nu) = (nu.natAbs : Int) := by split <;> omega
      have ed : de = (de.natAbs : Int) := by omega
      refine ⟨nu.natAbs, de.natAbs, by rw [en, ← ed], ⟨by omega, by omega⟩, ?_⟩
      rw [f3]
      repeat' (wtm_at "z")
      refine ⟨rfl, un * de, tot * de + nu * un, _, _, _, ⟨Int.mul_pos u1 (by omega), ?_⟩, rfl⟩
      rw [ssum, Int.add_mul, Int.mul_right_comm tot, u2, Int.mul_add, Int.mul_right_comm un, Int.mul_assoc un de df, ← f4, Int.mul_comm un, Int.mul_assoc nu un, Int.mul_comm nu, Int.mul_right_comm]
      rw [Int.mul_assoc un, Int.mul_comm (fac A.length : Int) nu]
    · rintro g6 es6 ⟨rfl, un, tot, e9, e10, e11, ⟨u1, u2⟩, rfl⟩
      rw [List.length_map, List.take_length, shares_sum nd] at u2
      have a1 : den s2.ns c (fun e => decide (e ∈ A)) = x.sem fun e => decide (e ∈ ps) := by
        rw [← d1]
        refine den_agree o1.good c l1 fun e he => decide_eq_decide.mpr ?_
        exact ⟨fun q => ((hA e).mp q).2, fun q => (hA e).mpr ⟨he, q⟩⟩
      rw [a1, d1] at u2
      have u3 : tot = (b2i (x.sem fun e => decide (e ∈ ps)) - b2i (x.sem fun e => decide (e ∈ ([] : List Int)))) * un := by
        refine Int.eq_of_mul_eq_mul_right (show (fac A.length : Int) ≠ 0 by omega) ?_
        rw [u2, Int.mul_comm un, Int.mul_comm (fac A.length : Int), Int.mul_right_comm]
      have b1 := b2i_01 (x.sem fun e => decide (e ∈ ps))
      have b2 := b2i_01 (x.sem fun e => decide (e ∈ ([] : List Int)))
      refine wq_seq (wq_set (we_op (we_cb (wa_cons (we_call (wm_dat (we_var rfl (wm_dat (we_var rfl (wm_nil ⟨E, x, ps, rfl, hx, wa_nil (wc_intB2 ?_)⟩))))))))))
      refine we_cb (wa_cons (we_call (wm_dat (we_var rfl (wm_dat (we_lst (wa_nil ⟨Nat.zero_le _, wm_nil ⟨E, x, [], rfl, hx, wa_nil (wc_intB2 (wr_int0 ?_))⟩⟩)))))))
      refine wq_ret (we_op (we_var rfl (we_op (we_var rfl (we_var rfl (wr_intC (cmul_l (by omega)) (wr_eqI ?_)))))))
      rw [u3, decide_eq_true rfl]
end
end L74
namespace L74
open PySem PySem.Spec PyProof.Rows L2 Zc
/-! the head -/
def d_andleaf : He.DefD := ⟨("and_leaf", none), "and_leaf", "and_leaf", defArgs s_andleaf, defBody s_andleaf, defScope s_andleaf, [], []⟩
def d_orleaf : He.DefD := ⟨("or_leaf", none), "or_leaf", "or_leaf", defArgs s_orleaf, defBody s_orleaf, defScope s_orleaf, [], []⟩
def d_differleaf : He.DefD := ⟨("differ_leaf", none), "differ_leaf", "differ_leaf", defArgs s_differleaf, defBody s_differleaf, defScope s_differleaf, [], []⟩
def d_init : He.DefD := ⟨("Diagrams", some "__init__"), "__init__", "Diagrams.__init__", defArgs s_init, defBody s_init, defScope s_init, [], []⟩
def d_make : He.DefD := ⟨("Diagrams", some "make"), "make", "Diagrams.make", defArgs s_make, defBody s_make, defScope s_make, [], []⟩
def d_comb : He.DefD := ⟨("Diagrams", some "_combined"), "_combined", "Diagrams._combined", defArgs s_comb, defBody s_comb, defScope s_comb, [], []⟩
def d_split : He.DefD := ⟨("Diagrams", some "_split"), "_split", "Diagrams._split", defArgs s_split, defBody s_split, defScope s_split, [], []⟩
def d_node : He.DefD := ⟨("Diagrams", some "node"), "node", "Diagrams.node", defArgs s_node, defBody s_node, defScope s_node, [], []⟩
def d_there : He.DefD := ⟨("Diagrams", some "there"), "there", "Diagrams.there", defArgs s_there, defBody s_there, defScope s_there, [], []⟩
def d_conj : He.DefD := ⟨("Diagrams", some "conjunction"), "conjunction", "Diagrams.conjunction", defArgs s_conj, defBody s_conj, defScope s_conj, [], []⟩
def d_disj : He.DefD := ⟨("Diagrams", some "disjunction"), "disjunction", "Diagrams.disjunction", defArgs s_disj, defBody s_disj, defScope s_disj, [], []⟩
def d_differs : He.DefD := ⟨("Diagrams", some "differs"), "differs", "Diagrams.differs", defArgs s_differs, defBody s_differs, defScope s_differs, [], []⟩
def d_neg : He.DefD := ⟨("Diagrams", some "negation"), "negation", "Diagrams.negation", defArgs s_neg, defBody s_neg, defScope s_neg, [], []⟩
def d_parts : He.DefD := ⟨("Diagrams", some "_parts"), "_parts", "Diagrams._parts", defArgs s_parts, defBody s_parts, defScope s_parts, [], []⟩
def d_reached : He.DefD := ⟨("Diagrams", some "reached"), "reached", "Diagrams.reached", defArgs s_reached, defBody s_reached, defScope s_reached, [], []⟩
def d_depends : He.DefD := ⟨("Diagrams", some "depends"), "depends", "Diagrams.depends", defArgs s_depends, defBody s_depends, defScope s_depends, [], []⟩
def d_restrict : He.DefD := ⟨("Diagrams", some "restrict"), "restrict", "Diagrams.restrict", defArgs s_restrict, defBody s_restrict, defScope s_restrict, [], []⟩
def d_added : He.DefD := ⟨("added", none), "added", "added", defArgs s_added, defBody s_added, defScope s_added, [], []⟩
def d_widened : He.DefD := ⟨("widened", none), "widened", "widened", defArgs s_widened, defBody s_widened, defScope s_widened, [], []⟩
def d_orders : He.DefD := ⟨("orders", none), "orders", "orders", defArgs s_orders, defBody s_orders, defScope s_orders, [], []⟩
def d_weighed : He.DefD := ⟨("weighed", none), "weighed", "weighed", defArgs s_weighed, defBody s_weighed, defScope s_weighed, [], []⟩
def d_sizes : He.DefD := ⟨("sizes", none), "sizes", "sizes", defArgs s_sizes, defBody s_sizes, defScope s_sizes, [], []⟩
def d_lowest : He.DefD := ⟨("lowest", none), "lowest", "lowest", defArgs s_lowest, defBody s_lowest, defScope s_lowest, [], []⟩
def d_shares : He.DefD := ⟨("shares", none), "shares", "shares", defArgs s_shares, defBody s_shares, defScope s_shares, [], []⟩
def d_next : He.DefD := ⟨("_law_next", none), "_law_next", "_law_next", defArgs s_next, defBody s_next, defScope s_next, [], []⟩
def d_tree : He.DefD := ⟨("_law_tree", none), "_law_tree", "_law_tree", defArgs s_tree, defBody s_tree, defScope s_tree, [], []⟩
def d_build : He.DefD := ⟨("_law_build", none), "_law_build", "_law_build", defArgs s_build, defBody s_build, defScope s_build, [], []⟩
def d_true : He.DefD := ⟨("_law_true", none), "_law_true", "_law_true", defArgs s_true, defBody s_true, defScope s_true, [], []⟩
def d_common : He.DefD := ⟨("_law_common", none), "_law_common", "_law_common", defArgs s_common, defBody s_common, defScope s_common, [], []⟩
def d_draw : He.DefD := ⟨("_law_draw", none), "_law_draw", "_law_draw", defArgs s_draw, defBody s_draw, defScope s_draw, [], []⟩
def d_entries : He.DefD := ⟨("_law_entries", none), "_law_entries", "_law_entries", defArgs s_entries, defBody s_entries, defScope s_entries, [], []⟩
def d_law : He.DefD := ⟨("law", none), "law", "law", defArgs s_law, defBody s_law, defScope s_law, [], []⟩
def fn : List He.DefD := [d_andleaf, d_orleaf, d_differleaf, d_init, d_make, d_comb, d_split, d_node, d_there, d_conj, d_disj, d_differs, d_neg, d_parts, d_reached, d_depends, d_restrict, d_added, d_widened, d_orders, d_weighed, d_sizes, d_lowest, d_shares, d_next, d_tree, d_build, d_true, d_common, d_draw, d_entries, d_law]
def fa : List He.Fa := [.glo "and_leaf", .glo "or_leaf", .glo "differ_leaf", .glo "added", .glo "widened", .glo "orders", .glo "weighed", .glo "sizes", .glo "lowest", .glo "shares", .glo "_law_next", .glo "_law_tree", .glo "_law_build", .glo "_law_true", .glo "_law_common", .glo "_law_draw", .glo "_law_entries", .glo "law", .free "len", .free "abs", .free "min", .free "max", .free "int", .free "list", .free "tuple", .free "str", .free "bool", .free "set", .free "sorted", .free "all", .free "any", .free "sum", .free "range", .free "isinstance", .free "enumerate", .free "zip", .free "reversed", .free "repr", .int "NEVER" 0, .int "ALWAYS" 1, .glo "Diagrams", .cls "Diagrams", .mkr "Diagrams", .noat "Diagrams" "_nodes", .noat "Diagrams" "_numbers", .noat "Diagrams" "_results", .meth "Diagrams" "make", .meth "Diagrams" "_combined", .meth "Diagrams" "_split", .meth "Diagrams" "node", .meth "Diagrams" "there", .meth "Diagrams" "conjunction", .meth "Diagrams" "disjunction", .meth "Diagrams" "differs", .meth "Diagrams" "negation", .meth "Diagrams" "_parts", .meth "Diagrams" "reached", .meth "Diagrams" "depends", .meth "Diagrams" "restrict", .glo "LEAVES"]
def ts : List He.Tab := [(fun K => He.ga K "LEAVES", ["and", "or", "differ"])]
def ex (K : PySem.W.Frag) : Bool := He.valsB K (He.ga K "LEAVES") [("and", .glo "and_leaf"), ("or", .glo "or_leaf"), ("differ", .glo "differ_leaf")] && (decide (He.ga K "and_leaf" ≠ He.ga K "or_leaf" ∧ He.ga K "and_leaf" ≠ He.ga K "differ_leaf" ∧ He.ga K "or_leaf" ≠ He.ga K "differ_leaf") && (He.eqO (PySem.W.nsIn K mainGlobals "gcd") (some (some (.builtin "math.gcd")))))
abbrev hk : PySem.W.Hook := He.hookX 5 fa fn ts [] ex
theorem facts {P : Program} {w : World} {K : PySem.W.Frag} {h : Heap} {mg : Str → Option Value} {f : Addr} (X : K.In h) (G : h.Ns mainGlobals mg) (hfa : mg ("law" : Str) = some (.ref f)) (cc : He.SaysX fa fn ts [] ex w h K) :
    ∃ fd : FuncData, (∀ (s : Shared) (v : Value), BindsTo s fd ⟨[v], []⟩ [("script", v)]) ∧ ∀ base : Heap, K.In base → base.Ns mainGlobals mg → FnG P w K mg base 37 f fd ["script"] (spLaw K) := by
  have c := cc.t.d
  obtain ⟨fd0, F0⟩ := c.def_ 0 (d := d_andleaf) rfl
  have dAndleaf : Dfn K mg "and_leaf" s_andleaf := ⟨_, fd0, F0, He.glo_ok X G (c.fact 0 (f := .glo "and_leaf") rfl)⟩
  obtain ⟨fd1, F1⟩ := c.def_ 1 (d := d_orleaf) rfl
  have dOrleaf : Dfn K mg "or_leaf" s_orleaf := ⟨_, fd1, F1, He.glo_ok X G (c.fact 1 (f := .glo "or_leaf") rfl)⟩
  obtain ⟨fd2, F2⟩ := c.def_ 2 (d := d_differleaf) rfl
  have dDifferleaf : Dfn K mg "differ_leaf" s_differleaf := ⟨_, fd2, F2, He.glo_ok X G (c.fact 2 (f := .glo "differ_leaf") rfl)⟩
  obtain ⟨fd3, F3⟩ := c.def_ 3 (d := d_init) rfl
  obtain ⟨fd4, F4⟩ := c.def_ 4 (d := d_make) rfl
  have dMake : DfnM K (He.ga K "Diagrams") "make" "Diagrams.make" s_make := ⟨_, fd4, F4, He.meth_ok (c.fact 46 (f := .meth "Diagrams" "make") rfl)⟩
  obtain ⟨fd5, F5⟩ := c.def_ 5 (d := d_comb) rfl
  have dComb : DfnM K (He.ga K "Diagrams") "_combined" "Diagrams._combined" s_comb := ⟨_, fd5, F5, He.meth_ok (c.fact 47 (f := .meth "Diagrams" "_combined") rfl)⟩
  obtain ⟨fd6, F6⟩ := c.def_ 6 (d := d_split) rfl
  have dSplit : DfnM K (He.ga K "Diagrams") "_split" "Diagrams._split" s_split := ⟨_, fd6, F6, He.meth_ok (c.fact 48 (f := .meth "Diagrams" "_split") rfl)⟩
  obtain ⟨fd7, F7⟩ := c.def_ 7 (d := d_node) rfl
  have dNode : DfnM K (He.ga K "Diagrams") "node" "Diagrams.node" s_node := ⟨_, fd7, F7, He.meth_ok (c.fact 49 (f := .meth "Diagrams" "node") rfl)⟩
  obtain ⟨fd8, F8⟩ := c.def_ 8 (d := d_there) rfl
  have dThere : DfnM K (He.ga K "Diagrams") "there" "Diagrams.there" s_there := ⟨_, fd8, F8, He.meth_ok (c.fact 50 (f := .meth "Diagrams" "there") rfl)⟩
  obtain ⟨fd9, F9⟩ := c.def_ 9 (d := d_conj) rfl
  have dConj : DfnM K (He.ga K "Diagrams") "conjunction" "Diagrams.conjunction" s_conj := ⟨_, fd9, F9, He.meth_ok (c.fact 51 (f := .meth "Diagrams" "conjunction") rfl)⟩
  obtain ⟨fd10, F10⟩ := c.def_ 10 (d := d_disj) rfl
  have dDisj : DfnM K (He.ga K "Diagrams") "disjunction" "Diagrams.disjunction" s_disj := ⟨_, fd10, F10, He.meth_ok (c.fact 52 (f := .meth "Diagrams" "disjunction") rfl)⟩
  obtain ⟨fd11, F11⟩ := c.def_ 11 (d := d_differs) rfl
  have dDiffers : DfnM K (He.ga K "Diagrams") "differs" "Diagrams.differs" s_differs := ⟨_, fd11, F11, He.meth_ok (c.fact 53 (f := .meth "Diagrams" "differs") rfl)⟩
  obtain ⟨fd12, F12⟩ := c.def_ 12 (d := d_neg) rfl
  have dNeg : DfnM K (He.ga K "Diagrams") "negation" "Diagrams.negation" s_neg := ⟨_, fd12, F12, He.meth_ok (c.fact 54 (f := .meth "Diagrams" "negation") rfl)⟩
  obtain ⟨fd13, F13⟩ := c.def_ 13 (d := d_parts) rfl
  have dParts : DfnM K (He.ga K "Diagrams") "_parts" "Diagrams._parts" s_parts := ⟨_, fd13, F13, He.meth_ok (c.fact 55 (f := .meth "Diagrams" "_parts") rfl)⟩
  obtain ⟨fd14, F14⟩ := c.def_ 14 (d := d_reached) rfl
  have dReached : DfnM K (He.ga K "Diagrams") "reached" "Diagrams.reached" s_reached := ⟨_, fd14, F14, He.meth_ok (c.fact 56 (f := .meth "Diagrams" "reached") rfl)⟩
  obtain ⟨fd15, F15⟩ := c.def_ 15 (d := d_depends) rfl
  have dDepends : DfnM K (He.ga K "Diagrams") "depends" "Diagrams.depends" s_depends := ⟨_, fd15, F15, He.meth_ok (c.fact 57 (f := .meth "Diagrams" "depends") rfl)⟩
  obtain ⟨fd16, F16⟩ := c.def_ 16 (d := d_restrict) rfl
  have dRestrict : DfnM K (He.ga K "Diagrams") "restrict" "Diagrams.restrict" s_restrict := ⟨_, fd16, F16, He.meth_ok (c.fact 58 (f := .meth "Diagrams" "restrict") rfl)⟩
  obtain ⟨fd17, F17⟩ := c.def_ 17 (d := d_added) rfl
  have dAdded : Dfn K mg "added" s_added := ⟨_, fd17, F17, He.glo_ok X G (c.fact 3 (f := .glo "added") rfl)⟩
  obtain ⟨fd18, F18⟩ := c.def_ 18 (d := d_widened) rfl
  have dWidened : Dfn K mg "widened" s_widened := ⟨_, fd18, F18, He.glo_ok X G (c.fact 4 (f := .glo "widened") rfl)⟩
  obtain ⟨fd19, F19⟩ := c.def_ 19 (d := d_orders) rfl
  have dOrders : Dfn K mg "orders" s_orders := ⟨_, fd19, F19, He.glo_ok X G (c.fact 5 (f := .glo "orders") rfl)⟩
  obtain ⟨fd20, F20⟩ := c.def_ 20 (d := d_weighed) rfl
  have dWeighed : Dfn K mg "weighed" s_weighed := ⟨_, fd20, F20, He.glo_ok X G (c.fact 6 (f := .glo "weighed") rfl)⟩
  obtain ⟨fd21, F21⟩ := c.def_ 21 (d := d_sizes) rfl
  have dSizes : Dfn K mg "sizes" s_sizes := ⟨_, fd21, F21, He.glo_ok X G (c.fact 7 (f := .glo "sizes") rfl)⟩
  obtain ⟨fd22, F22⟩ := c.def_ 22 (d := d_lowest) rfl
  have dLowest : Dfn K mg "lowest" s_lowest := ⟨_, fd22, F22, He.glo_ok X G (c.fact 8 (f := .glo "lowest") rfl)⟩
  obtain ⟨fd23, F23⟩ := c.def_ 23 (d := d_shares) rfl
  have dShares : Dfn K mg "shares" s_shares := ⟨_, fd23, F23, He.glo_ok X G (c.fact 9 (f := .glo "shares") rfl)⟩
  obtain ⟨fd24, F24⟩ := c.def_ 24 (d := d_next) rfl
  have dNext : Dfn K mg "_law_next" s_next := ⟨_, fd24, F24, He.glo_ok X G (c.fact 10 (f := .glo "_law_next") rfl)⟩
  obtain ⟨fd25, F25⟩ := c.def_ 25 (d := d_tree) rfl
  have dTree : Dfn K mg "_law_tree" s_tree := ⟨_, fd25, F25, He.glo_ok X G (c.fact 11 (f := .glo "_law_tree") rfl)⟩
  obtain ⟨fd26, F26⟩ := c.def_ 26 (d := d_build) rfl
  have dBuild : Dfn K mg "_law_build" s_build := ⟨_, fd26, F26, He.glo_ok X G (c.fact 12 (f := .glo "_law_build") rfl)⟩
  obtain ⟨fd27, F27⟩ := c.def_ 27 (d := d_true) rfl
  have dTrue : Dfn K mg "_law_true" s_true := ⟨_, fd27, F27, He.glo_ok X G (c.fact 13 (f := .glo "_law_true") rfl)⟩
  obtain ⟨fd28, F28⟩ := c.def_ 28 (d := d_common) rfl
  have dCommon : Dfn K mg "_law_common" s_common := ⟨_, fd28, F28, He.glo_ok X G (c.fact 14 (f := .glo "_law_common") rfl)⟩
  obtain ⟨fd29, F29⟩ := c.def_ 29 (d := d_draw) rfl
  have dDraw : Dfn K mg "_law_draw" s_draw := ⟨_, fd29, F29, He.glo_ok X G (c.fact 15 (f := .glo "_law_draw") rfl)⟩
  obtain ⟨fd30, F30⟩ := c.def_ 30 (d := d_entries) rfl
  have dEntries : Dfn K mg "_law_entries" s_entries := ⟨_, fd30, F30, He.glo_ok X G (c.fact 16 (f := .glo "_law_entries") rfl)⟩
  obtain ⟨fd31, F31⟩ := c.def_ 31 (d := d_law) rfl
  have dLaw : Dfn K mg "law" s_law := ⟨_, fd31, F31, He.glo_ok X G (c.fact 17 (f := .glo "law") rfl)⟩
  have T : Bls mg := ⟨He.free_ok X G (c.fact 18 (f := .free "len") rfl), He.free_ok X G (c.fact 19 (f := .free "abs") rfl), He.free_ok X G (c.fact 20 (f := .free "min") rfl), He.free_ok X G (c.fact 21 (f := .free "max") rfl), He.free_ok X G (c.fact 22 (f := .free "int") rfl), He.free_ok X G (c.fact 23 (f := .free "list") rfl), He.free_ok X G (c.fact 24 (f := .free "tuple") rfl), He.free_ok X G (c.fact 25 (f := .free "str") rfl), He.free_ok X G (c.fact 26 (f := .free "bool") rfl), He.free_ok X G (c.fact 27 (f := .free "set") rfl), He.free_ok X G (c.fact 28 (f := .free "sorted") rfl), He.free_ok X G (c.fact 29 (f := .free "all") rfl), He.free_ok X G (c.fact 30 (f := .free "any") rfl), He.free_ok X G (c.fact 31 (f := .free "sum") rfl), He.free_ok X G (c.fact 32 (f := .free "range") rfl), He.free_ok X G (c.fact 33 (f := .free "isinstance") rfl), He.free_ok X G (c.fact 34 (f := .free "enumerate") rfl), He.free_ok X G (c.fact 35 (f := .free "zip") rfl), He.free_ok X G (c.fact 36 (f := .free "reversed") rfl), He.free_ok X G (c.fact 37 (f := .free "repr") rfl)⟩
  have hN := He.int_ok X G (c.fact 38 (f := .int "NEVER" 0) rfl)
  have hA := He.int_ok X G (c.fact 39 (f := .int "ALWAYS" 1) rfl)
  have gD := He.glo_ok X G (c.fact 40 (f := .glo "Diagrams") rfl)
  have MK := He.mkr_ok (c.fact 42 (f := .mkr "Diagrams") rfl)
  have CL : ClsS K (He.ga K "Diagrams") := ⟨He.cls_ok (c.fact 41 (f := .cls "Diagrams") rfl), He.noat_ok (c.fact 43 (f := .noat "Diagrams" "_nodes") rfl), He.noat_ok (c.fact 44 (f := .noat "Diagrams" "_numbers") rfl), He.noat_ok (c.fact 45 (f := .noat "Diagrams" "_results") rfl)⟩
  have hex := cc.more
  obtain ⟨ex1, hex⟩ := He.ba hex
  obtain ⟨ex2, hex⟩ := He.ba hex
  obtain ⟨es, en, KD⟩ := cc.t.tab 0 (t := (fun K => He.ga K "LEAVES", ["and", "or", "differ"])) rfl
  have LV : Leaves w K mg (He.ga K "LEAVES") (fun f => match f with | .and => He.ga K "and_leaf" | .or => He.ga K "or_leaf" | .dif => He.ga K "differ_leaf") := by
    have q := of_decide_eq_true ex2
    refine ⟨He.glo_ok X G (c.fact 59 (f := .glo "LEAVES") rfl), fun f => ?_, fun f f' h => ?_, fun f => ?_⟩
    · cases f
      · obtain ⟨u, e, r⟩ := He.valsB_ok ex1 (q := ("and", .glo "and_leaf")) (by simp)
        exact ⟨es, en, u, KD.at_, KD.lit, e, r⟩
      · obtain ⟨u, e, r⟩ := He.valsB_ok ex1 (q := ("or", .glo "or_leaf")) (by simp)
        exact ⟨es, en, u, KD.at_, KD.lit, e, r⟩
      · obtain ⟨u, e, r⟩ := He.valsB_ok ex1 (q := ("differ", .glo "differ_leaf")) (by simp)
        exact ⟨es, en, u, KD.at_, KD.lit, e, r⟩
    · cases f <;> cases f' <;> first | rfl | (exact absurd h q.1) | (exact absurd h.symm q.1) | (exact absurd h q.2.1) | (exact absurd h.symm q.2.1) | (exact absurd h q.2.2) | (exact absurd h.symm q.2.2)
    · cases f
      · exact He.glo_ok X G (c.fact 0 (f := .glo "and_leaf") rfl)
      · exact He.glo_ok X G (c.fact 1 (f := .glo "or_leaf") rfl)
      · exact He.glo_ok X G (c.fact 2 (f := .glo "differ_leaf") rfl)
  have hG : mg "gcd" = some (.builtin "math.gcd") := PySem.W.mg_of X G (He.eqO_ok hex)
  have e := hfa.symm.trans (He.glo_ok X G (c.fact 17 (f := .glo "law") rfl))
  cases e
  have b := FunD.bindsA (ps := ["script"]) F31 fun _ _ _ _ _ _ us hl => match us, hl with | [_], _ => rfl
  refine ⟨fd31, fun s v => b s [v] rfl, fun base _ _ => ?_⟩
  have BI : Binds K fd3 ["self"] [] := F3.bindsN fun _ _ _ _ _ _ us hl => match us, hl with | [_], _ => rfl
  have OI := ok_init (P := P) (w := w) (mg := mg) (base := base) CL F3
  have C0_next := fun (a s : Addr) (ns : List Int) => c_next (P := P) (w := w) (K := K) (mg := mg) (base := base) (R := Rdraw a s ns) (Rdraw.has a s ns) dNext T
  have C_law_entries := fun (a s : Addr) (ns : List Int) => c_entries (P := P) (w := w) (K := K) (mg := mg) (base := base) (R := Rdraw a s ns) dEntries T (C0_next a s ns)
  have C_and_leaf := fun (a s : Addr) (ns E : List Int) => c_andleaf (P := P) (w := w) (K := K) (mg := mg) (base := base) (R := (Rboth (He.ga K "Diagrams") E (Rdraw a s ns))) dAndleaf T hN hA
  have C_or_leaf := fun (a s : Addr) (ns E : List Int) => c_orleaf (P := P) (w := w) (K := K) (mg := mg) (base := base) (R := (Rboth (He.ga K "Diagrams") E (Rdraw a s ns))) dOrleaf T hN hA
  have C_differ_leaf := fun (a s : Addr) (ns E : List Int) => c_differleaf (P := P) (w := w) (K := K) (mg := mg) (base := base) (R := (Rboth (He.ga K "Diagrams") E (Rdraw a s ns))) dDifferleaf T hN hA
  have C_make := fun (a s : Addr) (ns E : List Int) => c_make (P := P) (w := w) (K := K) (mg := mg) (base := base) (R := (Rboth (He.ga K "Diagrams") E (Rdraw a s ns))) (Rboth.store (He.ga K "Diagrams") E (Rdraw a s ns)) CL dMake T
  have C_combined := fun (a s : Addr) (ns E : List Int) => all_comb (P := P) (w := w) (K := K) (mg := mg) (base := base) (R := (Rboth (He.ga K "Diagrams") E (Rdraw a s ns))) (Rboth.store (He.ga K "Diagrams") E (Rdraw a s ns)) CL LV (fun f => by cases f <;> first | exact C_and_leaf a s ns E | exact C_or_leaf a s ns E | exact C_differ_leaf a s ns E) dSplit dComb T (C_make a s ns E) 8
  have C_node := fun (a s : Addr) (ns E : List Int) => c_node (P := P) (w := w) (K := K) (mg := mg) (base := base) (R := (Rboth (He.ga K "Diagrams") E (Rdraw a s ns))) (Rboth.store (He.ga K "Diagrams") E (Rdraw a s ns)) CL dNode T
  have C_there := fun (a s : Addr) (ns E : List Int) => c_there (P := P) (w := w) (K := K) (mg := mg) (base := base) (R := (Rboth (He.ga K "Diagrams") E (Rdraw a s ns))) (Rboth.store (He.ga K "Diagrams") E (Rdraw a s ns)) CL dThere T (C_make a s ns E) hN hA
  have C_conjunction := fun (a s : Addr) (ns E : List Int) => c_conj (P := P) (w := w) (K := K) (mg := mg) (base := base) (R := (Rboth (He.ga K "Diagrams") E (Rdraw a s ns))) (Rboth.store (He.ga K "Diagrams") E (Rdraw a s ns)) CL 8 dConj T (C_combined a s ns E)
  have C_disjunction := fun (a s : Addr) (ns E : List Int) => c_disj (P := P) (w := w) (K := K) (mg := mg) (base := base) (R := (Rboth (He.ga K "Diagrams") E (Rdraw a s ns))) (Rboth.store (He.ga K "Diagrams") E (Rdraw a s ns)) CL 8 dDisj T (C_combined a s ns E)
  have C_differs := fun (a s : Addr) (ns E : List Int) => c_differs (P := P) (w := w) (K := K) (mg := mg) (base := base) (R := (Rboth (He.ga K "Diagrams") E (Rdraw a s ns))) (Rboth.store (He.ga K "Diagrams") E (Rdraw a s ns)) CL 8 dDiffers T (C_combined a s ns E)
  have C_negation := fun (a s : Addr) (ns E : List Int) => c_neg (P := P) (w := w) (K := K) (mg := mg) (base := base) (R := (Rboth (He.ga K "Diagrams") E (Rdraw a s ns))) (Rboth.store (He.ga K "Diagrams") E (Rdraw a s ns)) CL 8 dNeg T (C_differs a s ns E) hN hA
  have C_parts := fun (a s : Addr) (ns E : List Int) => c_parts (P := P) (w := w) (K := K) (mg := mg) (base := base) (R := (Rboth (He.ga K "Diagrams") E (Rdraw a s ns))) (Rboth.store (He.ga K "Diagrams") E (Rdraw a s ns)) CL dParts T hN hA
  have C_reached := fun (a s : Addr) (ns E : List Int) => c_reached (P := P) (w := w) (K := K) (mg := mg) (base := base) (R := (Rboth (He.ga K "Diagrams") E (Rdraw a s ns))) (Rboth.store (He.ga K "Diagrams") E (Rdraw a s ns)) CL dReached T (C_parts a s ns E) hN hA
  have C_depends := fun (a s : Addr) (ns E : List Int) => c_depends (P := P) (w := w) (K := K) (mg := mg) (base := base) (R := (Rboth (He.ga K "Diagrams") E (Rdraw a s ns))) (Rboth.store (He.ga K "Diagrams") E (Rdraw a s ns)) CL dDepends T (C_reached a s ns E) hN hA
  have C_restrict := fun (a s : Addr) (ns E : List Int) => c_restrict (P := P) (w := w) (K := K) (mg := mg) (base := base) (R := (Rboth (He.ga K "Diagrams") E (Rdraw a s ns))) (Rboth.store (He.ga K "Diagrams") E (Rdraw a s ns)) CL dRestrict T (C_reached a s ns E) (C_make a s ns E) hN hA
  have C_added := fun (a s : Addr) (ns E : List Int) => c_added (P := P) (w := w) (K := K) (mg := mg) (base := base) (R := (Rboth (He.ga K "Diagrams") E (Rdraw a s ns))) dAdded T
  have C_widened := fun (a s : Addr) (ns E : List Int) => c_widened (P := P) (w := w) (K := K) (mg := mg) (base := base) (R := (Rboth (He.ga K "Diagrams") E (Rdraw a s ns))) dWidened T (C_added a s ns E)
  have C_orders := fun (a s : Addr) (ns E : List Int) => c_orders (P := P) (w := w) (K := K) (mg := mg) (base := base) (R := (Rboth (He.ga K "Diagrams") E (Rdraw a s ns))) dOrders T
  have C_weighed := fun (a s : Addr) (ns E : List Int) => c_weighed (P := P) (w := w) (K := K) (mg := mg) (base := base) (R := (Rboth (He.ga K "Diagrams") E (Rdraw a s ns))) dWeighed T
  have C_sizes := fun (a s : Addr) (ns E : List Int) => c_sizes (P := P) (w := w) (K := K) (mg := mg) (base := base) (R := (Rboth (He.ga K "Diagrams") E (Rdraw a s ns))) (Rboth.store (He.ga K "Diagrams") E (Rdraw a s ns)) CL dSizes T (C_reached a s ns E) (C_node a s ns E) (C_depends a s ns E) (C_restrict a s ns E) (C_added a s ns E) (C_widened a s ns E) hN hA
  have C_lowest := fun (a s : Addr) (ns E : List Int) => c_lowest (P := P) (w := w) (K := K) (mg := mg) (base := base) (R := (Rboth (He.ga K "Diagrams") E (Rdraw a s ns))) dLowest T hG
  have C_shares := fun (a s : Addr) (ns E : List Int) => c_shares (P := P) (w := w) (K := K) (mg := mg) (base := base) (R := (Rboth (He.ga K "Diagrams") E (Rdraw a s ns))) (Rboth.store (He.ga K "Diagrams") E (Rdraw a s ns)) CL dShares T (C_depends a s ns E) (C_restrict a s ns E) (C_sizes a s ns E) (C_orders a s ns E) (C_weighed a s ns E) (C_lowest a s ns E)
  have C_law_next := fun (a s : Addr) (ns E : List Int) => c_next (P := P) (w := w) (K := K) (mg := mg) (base := base) (R := (Rboth (He.ga K "Diagrams") E (Rdraw a s ns))) (Rboth.draw (Rdraw.has a s ns)) dNext T
  have C_law_tree := fun (a s : Addr) (ns E : List Int) => c_tree (P := P) (w := w) (K := K) (mg := mg) (base := base) (R := (Rboth (He.ga K "Diagrams") E (Rdraw a s ns))) dTree T (C_law_next a s ns E) 5
  have C_law_build := fun (a s : Addr) (ns E : List Int) => c_build (P := P) (w := w) (K := K) (mg := mg) (base := base) (R := (Rboth (He.ga K "Diagrams") E (Rdraw a s ns))) (Rboth.store (He.ga K "Diagrams") E (Rdraw a s ns)) CL dBuild T (C_there a s ns E) (C_negation a s ns E) (C_conjunction a s ns E) (C_disjunction a s ns E) (C_differs a s ns E) 5
  have C_law_true := fun (a s : Addr) (ns E : List Int) => c_true (P := P) (w := w) (K := K) (mg := mg) (base := base) (R := (Rboth (He.ga K "Diagrams") E (Rdraw a s ns))) dTrue T 5
  have C_law_common := fun (a s : Addr) (ns E : List Int) => c_common (P := P) (w := w) (K := K) (mg := mg) (base := base) (R := (Rboth (He.ga K "Diagrams") E (Rdraw a s ns))) dCommon T
  exact ok_law gD MK OI BI F31 T (c_draw dDraw T) C_law_entries C_law_next C_law_tree C_law_build C_law_true C_law_common C_shares
end L74
open PySem PySem.W PySem.Calls PyProof.Rows
theorem PySem.Challenge.cw_lineworks_k74_shares_add_up_holds : PySem.Challenge.rw_lineworks_k74_shares_add_up.Holds := by
  w_on; o_law; o_head (L74.hk); (case hw => w_witness2)
  case hc =>
    refine Zc.walkG (l := PySem.Challenge.rw_lineworks_k74_shares_add_up) (n := 63) (k := 37) (x := "script") rfl (by decide) (by kernel_rfl) ⟨rfl, by decide, by decide⟩ ?F
    intro w mg fa h Y G hmg0
    obtain ⟨K, KX, c⟩ := Y
    have hmg : mg ("law" : PySem.Str) = some (.ref fa) := hmg0
    obtain ⟨fd, hb, hF⟩ := L74.facts (P := (PySem.Challenge.rw_lineworks_k74_shares_add_up).prog) (w := w) KX G hmg c
    exact ⟨K, fd, L74.spLaw K, KX, hb, fun H a ns hl _ hS => ⟨a, ns, rfl, hS, fun _ => rfl⟩, hF⟩
