import PyProof.Rows.All
import Wide.All
import OpenK.AllK
import Wide.FinOn
import HandS.ForMost
import HandS.Exc
import HandS.WordsExc
import HandS.TryMany
import HandS.ExcOwn
import HandS.CallLocal
import HandS.CallSlots
import HandS.IsInst
import HandS.Zip
import HandS.TupMul
import HandS.TupAny
import HandS.TupSets
import HandS.Conv
import HandS.Wide
import HandS.More
import HandS.Defaults
import HandS.Style
import HandS.HeadHook2
import HandS.Head2
import HandS.HeadEnd
import HandS.SortRule
import PyProof.MaxThree
import PyProof.SumWalkG
import PySem.Challenge.RW_bracketroads_k00_whole_integers_choices
set_option Elab.async false
set_option linter.all false
set_option maxRecDepth 100000
set_option autoImplicit false
set_option maxHeartbeats 0
/-! MM: values as plain data, and what a def computes as a plain function: judgements over HandS. -/
namespace MM
open PySem PySem.Spec PyProof.Rows L2

abbrev St := L2.St
/-! ### data -/
/-- a built-in type -/
inductive Ty where
  | int | bool | str | tuple | list | dict
  deriving DecidableEq
def Ty.name : Ty → String
  | .int => "int"
  | .bool => "bool"
  | .str => "str"
  | .tuple => "tuple"
  | .list => "list"
  | .dict => "dict"
inductive D where
  | non | bl (b : Bool) | int (i : Int) | str (x : Str) | gl (n : Nat) | ty (s : Ty)
  | tup (xs : List D) | lst (xs : List D) | scr (xs : List D) | obj (c : Nat) (fs : List (Str × D)) | dic (kvs : List (D × D))

/-- the written part, and where the text's defs and classes stand -/
structure Ctx where
  K : PySem.W.Frag
  fa : Nat → Addr

def keyD : Key → D
  | .inl i => .int i
  | .inr x => .str x

mutual
inductive Rep (C : Ctx) (F : Hp) : V → D → Prop
  | non : Rep C F .non .non
  | bl (b : Bool) : Rep C F (.bl b) (.bl b)
  | int (i : Int) : Rep C F (.int i) (.int i)
  | str (x : Str) : Rep C F (.str x) (.str x)
  | gl (n : Nat) : Rep C F (.ref (C.fa n)) (.gl n)
  | ty (s : Ty) : Rep C F (.ty s.name) (.ty s)
  | tup {a vs ds} : SqT C.K F a vs → RepL C F vs ds → Rep C F (.ref a) (.tup ds)
  | lst {a vs ds} : F a = some (.lst vs) → RepL C F vs ds → Rep C F (.ref a) (.lst ds)
  | scr {a vs ds} : SqL C.K F a vs → RepL C F vs ds → Rep C F (.ref a) (.scr ds)
  | obj {a c dx fvs fs} : F a = some (.ins (C.fa c) dx fvs) → RepF C F fvs fs → Rep C F (.ref a) (.obj c fs)
  | dicK {a} {kvs : List (Key × V)} {ds} : F a = some (.dK kvs) → RepK C F kvs ds → Rep C F (.ref a) (.dic ds)
  | dicT {a} {kvs : List (List Key × V)} {ds} : F a = some (.dT kvs) → RepT C F kvs ds → Rep C F (.ref a) (.dic ds)
inductive RepL (C : Ctx) (F : Hp) : List V → List D → Prop
  | nil : RepL C F [] []
  | cons {v d vs ds} : Rep C F v d → RepL C F vs ds → RepL C F (v :: vs) (d :: ds)
inductive RepF (C : Ctx) (F : Hp) : List (Str × V) → List (Str × D) → Prop
  | nil : RepF C F [] []
  | cons {x v d vs ds} : Rep C F v d → RepF C F vs ds → RepF C F ((x, v) :: vs) ((x, d) :: ds)
inductive RepK (C : Ctx) (F : Hp) : List (Key × V) → List (D × D) → Prop
  | nil : RepK C F [] []
  | cons {x v d vs ds} : Rep C F v d → RepK C F vs ds → RepK C F ((x, v) :: vs) ((keyD x, d) :: ds)
inductive RepT (C : Ctx) (F : Hp) : List (List Key × V) → List (D × D) → Prop
  | nil : RepT C F [] []
  | cons {x v d vs ds} : Rep C F v d → RepT C F vs ds → RepT C F ((x, v) :: vs) ((.tup (x.map keyD), d) :: ds)
end

theorem SqT_mono {K : PySem.W.Frag} {F F' : Hp} {a : Addr} {xs : List V} (e : Same F F') (h : SqT K F a xs) : SqT K F' a xs := by
  rcases h with (h | ⟨o, h⟩) | h
  · exact .inl (.inl (e _ _ h))
  · exact .inl (.inr ⟨o, e _ _ h⟩)
  · exact .inr h
theorem Rd_mono {F F' : Hp} {a : Addr} {u : HO} (e : Same F F') (h : Rd F a u) : Rd F' a u := by
  rcases h with h | ⟨o, h⟩
  · exact .inl (e _ _ h)
  · exact .inr ⟨o, e _ _ h⟩
mutual
theorem Rep.mono {C : Ctx} {F F' : Hp} (e : Same F F') : ∀ {v d}, Rep C F v d → Rep C F' v d
  | _, _, .non => .non
  | _, _, .bl b => .bl b
  | _, _, .int b => .int b
  | _, _, .str b => .str b
  | _, _, .gl b => .gl b
  | _, _, .ty b => .ty b
  | _, _, .tup h r => .tup (SqT_mono e h) (RepL.mono e r)
  | _, _, .lst h r => .lst (e _ _ h) (RepL.mono e r)
  | _, _, .scr h r => .scr (e.seq h) (RepL.mono e r)
  | _, _, .obj h r => .obj (e _ _ h) (RepF.mono e r)
  | _, _, .dicK h r => .dicK (e _ _ h) (RepK.mono e r)
  | _, _, .dicT h r => .dicT (e _ _ h) (RepT.mono e r)
theorem RepL.mono {C : Ctx} {F F' : Hp} (e : Same F F') : ∀ {v d}, RepL C F v d → RepL C F' v d
  | _, _, .nil => .nil
  | _, _, .cons h r => .cons (Rep.mono e h) (RepL.mono e r)
theorem RepF.mono {C : Ctx} {F F' : Hp} (e : Same F F') : ∀ {v d}, RepF C F v d → RepF C F' v d
  | _, _, .nil => .nil
  | _, _, .cons h r => .cons (Rep.mono e h) (RepF.mono e r)
theorem RepK.mono {C : Ctx} {F F' : Hp} (e : Same F F') : ∀ {v d}, RepK C F v d → RepK C F' v d
  | _, _, .nil => .nil
  | _, _, .cons h r => .cons (Rep.mono e h) (RepK.mono e r)
theorem RepT.mono {C : Ctx} {F F' : Hp} (e : Same F F') : ∀ {v d}, RepT C F v d → RepT C F' v d
  | _, _, .nil => .nil
  | _, _, .cons h r => .cons (Rep.mono e h) (RepT.mono e r)
end

section
variable {C : Ctx} {F F' H H' : Hp}
theorem RepL.length : ∀ {vs ds}, RepL C F vs ds → vs.length = ds.length
  | _, _, .nil => rfl
  | _, _, .cons _ r => congrArg (· + 1) r.length
theorem RepL.append : ∀ {vs ds vs' ds'}, RepL C F vs ds → RepL C F vs' ds' → RepL C F (vs ++ vs') (ds ++ ds')
  | _, _, _, _, .nil, q => q
  | _, _, _, _, .cons h r, q => .cons h (r.append q)
theorem RepL.get : ∀ {vs ds} {i : Nat} {d : D}, RepL C F vs ds → ds[i]? = some d → ∃ v, vs[i]? = some v ∧ Rep C F v d
  | _, _, _, _, .nil, e => by simp at e
  | _, _, 0, _, .cons h _, e => by simp at e; subst e; exact ⟨_, rfl, h⟩
  | _, _, i + 1, _, .cons _ r, e => by
    obtain ⟨v, h1, h2⟩ := RepL.get (i := i) r (by simpa using e)
    exact ⟨v, by simpa using h1, h2⟩
theorem RepL.take : ∀ {vs ds} (n : Nat), RepL C F vs ds → RepL C F (vs.take n) (ds.take n)
  | _, _, 0, _ => .nil
  | _, _, _ + 1, .nil => .nil
  | _, _, n + 1, .cons h r => .cons h (r.take n)
theorem RepL.drop : ∀ {vs ds} (n : Nat), RepL C F vs ds → RepL C F (vs.drop n) (ds.drop n)
  | _, _, 0, r => r
  | _, _, _ + 1, .nil => .nil
  | _, _, n + 1, .cons _ r => r.drop n
theorem RepL.set {v : V} {d : D} (h : Rep C F v d) : ∀ {vs ds} (i : Nat), RepL C F vs ds → RepL C F (vs.set i v) (ds.set i d)
  | _, _, _, .nil => .nil
  | _, _, 0, .cons _ r => .cons h r
  | _, _, i + 1, .cons q r => .cons q (RepL.set h i r)
theorem RepL.reverse : ∀ {vs ds}, RepL C F vs ds → RepL C F vs.reverse ds.reverse
  | _, _, .nil => .nil
  | _, _, .cons h r => by rw [List.reverse_cons, List.reverse_cons]; exact r.reverse.append (.cons h .nil)
theorem RepL.one {v d} (h : Rep C F v d) : RepL C F [v] [d] := .cons h .nil
end

/-! ### what is owned, what is new -/
def Own (C : Ctx) (F H : Hp) (a : Addr) (d : D) : Prop := F a = none ∧ match d with
  | .lst ds => ∃ vs, H a = some (.lst vs) ∧ RepL C F vs ds
  | .dic ds => (∃ kvs, H a = some (.dK kvs) ∧ RepK C F kvs ds) ∨ (∃ kvs, H a = some (.dT kvs) ∧ RepT C F kvs ds)
  | .obj c fs => ∃ dx fvs, H a = some (.ins (C.fa c) dx fvs) ∧ RepF C F fvs fs
  | _ => False
/-- the tracked heap grows; what stands at b may change -/
structure Grow (b : Addr → Prop) (F H F' H' : Hp) : Prop where
  hs : ∀ a o, H a = some o → ¬ b a → H' a = some o
  bs : ∀ a, H' a = none → H a = none
  fs : Same F F'
  fh : Same F' H'
  nw : ∀ a, F' a ≠ none → F a ≠ none ∨ H a = none
abbrev NoB : Addr → Prop := fun _ => False
section
variable {C : Ctx} {b : Addr → Prop} {F F' F'' H H' H'' : Hp} {a : Addr} {d : D}
theorem Grow.refl (h : Same F H) : Grow b F H F H := ⟨fun _ _ e _ => e, fun _ e => e, Same.refl F, h, fun _ e => .inl e⟩
theorem Grow.trans (g : Grow b F H F' H') (g' : Grow NoB F' H' F'' H'') : Grow b F H F'' H'' where
  hs := fun a o e n => g'.hs a o (g.hs a o e n) (fun z => z)
  bs := fun a e => g.bs a (g'.bs a e)
  fs := g.fs.trans g'.fs
  fh := g'.fh
  nw := fun a e => by
    rcases g'.nw a e with h | h
    · exact g.nw a h
    · exact .inr (g.bs a h)
/-- a call that changes what stands at a, our own -/
theorem Grow.transB (g : Grow b F H F' H') (g' : Grow (fun c => c = a) F' H' F'' H'') (ha : H a = none ∨ b a) : Grow b F H F'' H'' where
  hs := fun c o e n => g'.hs c o (g.hs c o e n) (fun z => by
    subst z
    rcases ha with h | h
    · rw [h] at e; cases e
    · exact n h)
  bs := fun a e => g.bs a (g'.bs a e)
  fs := g.fs.trans g'.fs
  fh := g'.fh
  nw := fun c e => by
    rcases g'.nw c e with h | h
    · exact g.nw c h
    · exact .inr (g.bs c h)
/-- nothing new: the same heap -/
theorem Grow.to {b' : Addr → Prop} (g : Grow NoB F H F' H') : Grow b' F H F' H' := ⟨fun a o e _ => g.hs a o e (fun z => z), g.bs, g.fs, g.fh, g.nw⟩
/-- a new object, frozen at once -/
theorem Grow.new {p : Addr} {o : HO} (h : Same F H) (hp : H p = none) : Grow NoB F H (upd F p o) (upd H p o) where
  hs := fun c u e _ => by rw [upd_ne (ne_of_none e hp)]; exact e
  bs := fun c e => by
    by_cases q : c = p
    · subst q; exact hp
    · rw [upd_ne q] at e; exact e
  fs := fun c u e => by rw [upd_ne (ne_of_none (h _ _ e) hp)]; exact e
  fh := fun c u e => by
    by_cases q : c = p
    · subst q; rw [upd_same] at e ⊢; exact e
    · rw [upd_ne q] at e ⊢; exact h _ _ e
  nw := fun c e => by
    by_cases q : c = p
    · subst q; exact .inr hp
    · rw [upd_ne q] at e; exact .inl e
/-- a new object, not frozen -/
theorem Grow.newO {p : Addr} {o : HO} (h : Same F H) (hp : H p = none) : Grow NoB F H F (upd H p o) where
  hs := fun c u e _ => by rw [upd_ne (ne_of_none e hp)]; exact e
  bs := fun c e => by
    by_cases q : c = p
    · subst q; exact hp
    · rw [upd_ne q] at e; exact e
  fs := Same.refl F
  fh := fun c u e => by rw [upd_ne (ne_of_none (h _ _ e) hp)]; exact h _ _ e
  nw := fun c e => .inl e

/-- what is owned stays so while others grow -/
theorem Own.grow (o : Own C F H a d) (g : Grow b F H F' H') (nb : ¬ b a) : Own C F' H' a d := by
  obtain ⟨n, r⟩ := o
  have key : ∀ u, H a = some u → F' a = none ∧ H' a = some u := fun u e => by
    refine ⟨?_, g.hs a u e nb⟩
    cases q : F' a with
    | none => rfl
    | some z =>
      rcases g.nw a (by rw [q]; simp) with h | h
      · exact absurd n h
      · rw [e] at h; cases h
  cases d with
  | lst ds => obtain ⟨vs, e, r⟩ := r; exact ⟨(key _ e).1, vs, (key _ e).2, r.mono g.fs⟩
  | dic ds =>
    rcases r with ⟨kvs, e, r⟩ | ⟨kvs, e, r⟩
    · exact ⟨(key _ e).1, .inl ⟨kvs, (key _ e).2, r.mono g.fs⟩⟩
    · exact ⟨(key _ e).1, .inr ⟨kvs, (key _ e).2, r.mono g.fs⟩⟩
  | obj c fs => obtain ⟨dx, fvs, e, r⟩ := r; exact ⟨(key _ e).1, dx, fvs, (key _ e).2, r.mono g.fs⟩
  | _ => exact r.elim
theorem Own.tracked (o : Own C F H a d) : ∃ u, H a = some u := by
  obtain ⟨n, r⟩ := o
  cases d with
  | lst ds => obtain ⟨vs, e, r⟩ := r; exact ⟨_, e⟩
  | dic ds => rcases r with ⟨kvs, e, r⟩ | ⟨kvs, e, r⟩ <;> exact ⟨_, e⟩
  | obj c fs => obtain ⟨dx, fvs, e, r⟩ := r; exact ⟨_, e⟩
  | _ => exact r.elim
/-- frozen: from now on it is read only -/
theorem Own.rep (o : Own C F H a d) (h : Same F H) : ∃ u, H a = some u ∧ Same F (upd F a u) ∧ Rep C (upd F a u) (.ref a) d := by
  obtain ⟨n, r⟩ := o
  have st : ∀ u, Same F (upd F a u) := fun u c v e => by rw [upd_ne (ne_of_none e n)]; exact e
  cases d with
  | lst ds => obtain ⟨vs, e, r⟩ := r; exact ⟨_, e, st _, .lst upd_same (r.mono (st _))⟩
  | dic ds =>
    rcases r with ⟨kvs, e, r⟩ | ⟨kvs, e, r⟩
    · exact ⟨_, e, st _, .dicK upd_same (r.mono (st _))⟩
    · exact ⟨_, e, st _, .dicT upd_same (r.mono (st _))⟩
  | obj c fs => obtain ⟨dx, fvs, e, r⟩ := r; exact ⟨_, e, st _, .obj upd_same (r.mono (st _))⟩
  | _ => exact r.elim
end

/-! ### a result, an exception, the slots -/
inductive RV where
  | sh (d : D) | fr (d : D)
def RV.d : RV → D
  | .sh d => d
  | .fr d => d
/-- an exception: its class, what stands in its own dict -/
structure Xc where
  c : Nat
  fs : Option (List (Str × D))
inductive Sl where
  | un | sh (d : D) | ow (d : D) | bo (d : D)
abbrev Ev := List Sl
inductive Out (α : Type) where
  | ok (a : α) (E : Ev) | ex (x : Xc) (E : Ev) | stuck
abbrev M (α : Type) := Ev → Out α
def Out.bind {α β : Type} (o : Out α) (f : α → Ev → Out β) : Out β := match o with
  | .ok a E => f a E
  | .ex x E => .ex x E
  | .stuck => .stuck
def M.pure {α : Type} (a : α) : M α := fun E => .ok a E
def M.bind {α β : Type} (m : M α) (f : α → M β) : M β := fun E => (m E).bind fun a E' => f a E'

/-- the entry of a def -/
structure Base where
  F0 : Hp
  H0 : Hp
  b : Addr → Prop
  pin : Hp
def SlOk (C : Ctx) (B : Base) (F H : Hp) : Sl → Option (Option V) → Prop
  | .un, _ => True
  | .sh d, o => ∃ v, o = some (some v) ∧ Rep C F v d
  | .ow d, o => ∃ a, o = some (some (.ref a)) ∧ Own C F H a d ∧ B.H0 a = none
  | .bo d, o => ∃ a, o = some (some (.ref a)) ∧ Own C F H a d ∧ B.b a
def Sl.own : Sl → Bool
  | .ow _ => true
  | .bo _ => true
  | _ => false
/-- a new object's address is no slot's own -/
def Apart (E : Ev) (σ : St) (a : Addr) : Prop := ∀ (i : Nat) (s : Sl), E[i]? = some s → s.own = true → σ[i]? ≠ some (some (.ref a))
structure Sim (C : Ctx) (B : Base) (F H : Hp) (E : Ev) (σ : St) : Prop where
  g : Grow B.b B.F0 B.H0 F H
  len : σ.length = E.length
  sl : ∀ (i : Nat) (s : Sl), E[i]? = some s → SlOk C B F H s σ[i]?
  sep : ∀ (i j : Nat) (s t : Sl) (a : Addr), E[i]? = some s → E[j]? = some t → s.own = true → t.own = true → σ[i]? = some (some (.ref a)) → σ[j]? = some (some (.ref a)) → i = j
  pn : ∀ a o, B.pin a = some o → H a = some o ∧ F a = none ∧ Apart E σ a
def RepR (C : Ctx) (B : Base) (F H : Hp) (E : Ev) (σ : St) : RV → V → Prop
  | .sh d, v => Rep C F v d
  | .fr d, v => ∃ a, v = .ref a ∧ Own C F H a d ∧ B.H0 a = none ∧ Apart E σ a ∧ B.pin a = none
section
variable {C : Ctx} {B : Base} {F F' H H' : Hp} {E E' : Ev} {σ : St} {a : Addr} {d : D} {r : RV} {v : V}
theorem SlOk.grow {s : Sl} {o : Option (Option V)} (x : SlOk C B F H s o) (g : Grow NoB F H F' H') : SlOk C B F' H' s o := by
  cases s with
  | un => trivial
  | sh d => obtain ⟨v, e, r⟩ := x; exact ⟨v, e, r.mono g.fs⟩
  | ow d => obtain ⟨a, e, r, n⟩ := x; exact ⟨a, e, r.grow g (fun z => z), n⟩
  | bo d => obtain ⟨a, e, r, n⟩ := x; exact ⟨a, e, r.grow g (fun z => z), n⟩
theorem Sim.grow (S : Sim C B F H E σ) (g : Grow NoB F H F' H') : Sim C B F' H' E σ :=
  ⟨S.g.trans g, S.len, fun i s e => (S.sl i s e).grow g, S.sep, fun a o e => by
    obtain ⟨h1, h2, h3⟩ := S.pn a o e
    refine ⟨g.hs a o h1 (fun z => z), ?_, h3⟩
    cases q : F' a with
    | none => rfl
    | some z =>
      rcases g.nw a (by rw [q]; simp) with h | h
      · exact absurd h2 h
      · rw [h1] at h; cases h⟩
theorem Sim.fh (S : Sim C B F H E σ) : Same F H := S.g.fh
/-- an owned slot's address is tracked and not frozen -/
theorem Sim.at {i : Nat} {s : Sl} (S : Sim C B F H E σ) (e : E[i]? = some s) (o : s.own = true) : ∃ a d, σ[i]? = some (some (.ref a)) ∧ Own C F H a d ∧ (s = .ow d ∨ s = .bo d) ∧ (B.H0 a = none ∨ B.b a) := by
  have q := S.sl i s e
  cases s with
  | un => cases o
  | sh d => cases o
  | ow d => obtain ⟨a, h1, h2, h3⟩ := q; exact ⟨a, d, h1, h2, .inl rfl, .inl h3⟩
  | bo d => obtain ⟨a, h1, h2, h3⟩ := q; exact ⟨a, d, h1, h2, .inr rfl, .inr h3⟩
/-- a fresh thing is frozen -/
theorem Sim.freeze (S : Sim C B F H E σ) (o : Own C F H a d) (n : B.H0 a = none) (ap : Apart E σ a) (pn : B.pin a = none) : ∃ F', Sim C B F' H E σ ∧ Same F F' ∧ Rep C F' (.ref a) d := by
  obtain ⟨u, e, st, r⟩ := o.rep S.fh
  refine ⟨upd F a u, ⟨⟨S.g.hs, S.g.bs, S.g.fs.trans st, fun c w q => ?_, fun c q => ?_⟩, S.len, fun i s q => ?_, S.sep, fun c w q => ?_⟩, st, r⟩
  · by_cases z : c = a
    · subst z; rw [upd_same] at q; cases q; exact e
    · rw [upd_ne z] at q; exact S.fh _ _ q
  · by_cases z : c = a
    · subst z; exact .inr n
    · rw [upd_ne z] at q; exact S.g.nw c q
  · have x := S.sl i s q
    have own : ∀ b' d', σ[i]? = some (some (.ref b')) → s.own = true → Own C F H b' d' → Own C (upd F a u) H b' d' := fun b' d' h1 h2 h3 => by
      have ne : b' ≠ a := fun z => ap i s q h2 (z ▸ h1)
      obtain ⟨n', r'⟩ := h3
      refine ⟨by rw [upd_ne ne]; exact n', ?_⟩
      cases d' with
      | lst ds => obtain ⟨vs, e, r⟩ := r'; exact ⟨vs, e, r.mono st⟩
      | dic ds =>
        rcases r' with ⟨kvs, e, r⟩ | ⟨kvs, e, r⟩
        · exact .inl ⟨kvs, e, r.mono st⟩
        · exact .inr ⟨kvs, e, r.mono st⟩
      | obj c fs => obtain ⟨dx, fvs, e, r⟩ := r'; exact ⟨dx, fvs, e, r.mono st⟩
      | _ => exact r'.elim
    cases s with
    | un => trivial
    | sh d => obtain ⟨v, e, r⟩ := x; exact ⟨v, e, r.mono st⟩
    | ow d => obtain ⟨b', h1, h2, h3⟩ := x; exact ⟨b', h1, own _ _ h1 rfl h2, h3⟩
    | bo d => obtain ⟨b', h1, h2, h3⟩ := x; exact ⟨b', h1, own _ _ h1 rfl h2, h3⟩
  · obtain ⟨h1, h2, h3⟩ := S.pn c w q
    have ne : c ≠ a := fun z => by rw [z, pn] at q; cases q
    exact ⟨h1, by rw [upd_ne ne]; exact h2, h3⟩
theorem Sim.toSh (S : Sim C B F H E σ) (hr : RepR C B F H E σ r v) : ∃ F', Sim C B F' H E σ ∧ Same F F' ∧ Rep C F' v r.d := by
  cases r with
  | sh d => exact ⟨F, S, Same.refl F, hr⟩
  | fr d =>
    obtain ⟨a, rfl, o, n, ap, pn⟩ := hr
    exact S.freeze o n ap pn
theorem Apart.set (h : Apart E σ a) (i : Nat) {t : Sl} (ht : t.own = false) (o : Option V) : Apart (E.set i t) (σ.set i o) a := fun j s e os => by
  rw [List.getElem?_set] at e
  split at e
  · split at e
    · cases e; rw [ht] at os; cases os
    · cases e
  · rename_i hij
    rw [List.getElem?_set_ne hij]
    exact h j s e os
theorem Apart.set1 (h : Apart E σ a) (i : Nat) {t : Sl} (ht : t.own = false) : Apart (E.set i t) σ a := fun j s e os => by
  rw [List.getElem?_set] at e
  split at e
  · split at e
    · cases e; rw [ht] at os; cases os
    · cases e
  · exact h j s e os
/-- a slot forgotten -/
theorem Sim.unset (S : Sim C B F H E σ) (i : Nat) : Sim C B F H (E.set i .un) σ := by
  refine ⟨S.g, by rw [List.length_set]; exact S.len, fun j s e => ?_, fun j k s t a e1 e2 o1 o2 => ?_, fun c o q => ⟨(S.pn c o q).1, (S.pn c o q).2.1, (S.pn c o q).2.2.set1 i rfl⟩⟩
  · rw [List.getElem?_set] at e
    split at e
    · split at e
      · cases e; trivial
      · cases e
    · exact S.sl j s e
  · rw [List.getElem?_set] at e1 e2
    split at e1
    · split at e1
      · cases e1; cases o1
      · cases e1
    · split at e2
      · split at e2
        · cases e2; cases o2
        · cases e2
      · exact S.sep j k s t a e1 e2 o1 o2
/-- a slot stored: a frozen value -/
theorem Sim.setSh (S : Sim C B F H E σ) (i : Nat) {v : V} {d : D} (r : Rep C F v d) : Sim C B F H (E.set i (.sh d)) (σ.set i (some v)) := by
  have hl := S.len
  refine ⟨S.g, by rw [List.length_set, List.length_set]; exact S.len, fun j s e => ?_, fun j k s t a e1 e2 o1 o2 => ?_, fun c o q => ⟨(S.pn c o q).1, (S.pn c o q).2.1, (S.pn c o q).2.2.set i rfl _⟩⟩
  · rw [List.getElem?_set] at e
    split at e
    · rename_i h; subst h
      split at e
      · cases e
        exact ⟨v, by rw [List.getElem?_set_self (by omega)], r⟩
      · cases e
    · rename_i h
      rw [List.getElem?_set_ne h]
      exact S.sl j s e
  · have ne : ∀ (j : Nat) (s : Sl), (E.set i (.sh d))[j]? = some s → s.own = true → i ≠ j ∧ E[j]? = some s := fun j s e o => by
      rw [List.getElem?_set] at e
      split at e
      · split at e
        · cases e; cases o
        · cases e
      · rename_i h; exact ⟨h, e⟩
    obtain ⟨n1, e1⟩ := ne j s e1 o1
    obtain ⟨n2, e2⟩ := ne k t e2 o2
    rw [List.getElem?_set_ne n1, List.getElem?_set_ne n2]
    exact S.sep j k s t a e1 e2 o1 o2
/-- .. a fresh thing -/
theorem Sim.setOw (S : Sim C B F H E σ) (i : Nat) (o : Own C F H a d) (n : B.H0 a = none) (ap : Apart E σ a) (pn : B.pin a = none) : Sim C B F H (E.set i (.ow d)) (σ.set i (some (.ref a))) := by
  have hl := S.len
  refine ⟨S.g, by rw [List.length_set, List.length_set]; exact S.len, fun j s e => ?_, fun j k s t c e1 e2 o1 o2 h1 h2 => ?_, fun c w q => ?_⟩
  · rw [List.getElem?_set] at e
    split at e
    · rename_i h; subst h
      split at e
      · cases e
        exact ⟨a, by rw [List.getElem?_set_self (by omega)], o, n⟩
      · cases e
    · rename_i h
      rw [List.getElem?_set_ne h]
      exact S.sl j s e
  · have ne : ∀ (j : Nat) (s : Sl), (E.set i (.ow d))[j]? = some s → s.own = true → (σ.set i (some (.ref a)))[j]? = some (some (.ref c)) → (i = j ∧ a = c) ∨ (i ≠ j ∧ E[j]? = some s ∧ σ[j]? = some (some (.ref c))) := fun j s e o h => by
      rw [List.getElem?_set] at e
      split at e
      · rename_i hij
        split at e
        · subst hij
          rw [List.getElem?_set_self (by omega)] at h
          cases h
          exact .inl ⟨rfl, rfl⟩
        · cases e
      · rename_i hij
        rw [List.getElem?_set_ne hij] at h
        exact .inr ⟨hij, e, h⟩
    rcases ne j s e1 o1 h1 with ⟨p1, p2⟩ | ⟨p1, p2, p3⟩
    · rcases ne k t e2 o2 h2 with ⟨q1, q2⟩ | ⟨q1, q2, q3⟩
      · rw [← p1, ← q1]
      · subst p2; exact absurd q3 (ap k t q2 o2)
    · rcases ne k t e2 o2 h2 with ⟨q1, q2⟩ | ⟨q1, q2, q3⟩
      · subst q2; exact absurd p3 (ap j s p2 o1)
      · exact S.sep j k s t c p2 q2 o1 o2 p3 q3
  · obtain ⟨h1, h2, h3⟩ := S.pn c w q
    refine ⟨h1, h2, fun j s e os z => ?_⟩
    rw [List.getElem?_set] at e
    split at e
    · rename_i hij
      split at e
      · subst hij
        rw [List.getElem?_set_self (by omega)] at z
        cases z
        rw [pn] at q; cases q
      · cases e
    · rename_i hij
      rw [List.getElem?_set_ne hij] at z
      exact h3 j s e os z
/-- what an owned slot holds has changed -/
theorem Sim.upd {i : Nat} {s s' : Sl} {d' : D} (S : Sim C B F H E σ) (e : E[i]? = some s) (hs : (s = .ow d ∧ s' = .ow d') ∨ (s = .bo d ∧ s' = .bo d')) (ha : σ[i]? = some (some (.ref a)))
    (g : Grow (fun c => c = a) F H F' H') (o : Own C F' H' a d') : Sim C B F' H' (E.set i s') σ := by
  have os : s.own = true := by rcases hs with ⟨rfl, _⟩ | ⟨rfl, _⟩ <;> rfl
  have os' : s'.own = true := by rcases hs with ⟨_, rfl⟩ | ⟨_, rfl⟩ <;> rfl
  obtain ⟨a', d0, h1, h2, h3, h4⟩ := S.at e os
  rw [ha] at h1; cases h1
  refine ⟨S.g.transB g h4, by rw [List.length_set]; exact S.len, fun j t q => ?_, fun j k t u c q1 q2 o1 o2 z1 z2 => ?_, fun c w q => ?_⟩
  · rw [List.getElem?_set] at q
    split at q
    · rename_i hij; subst hij
      split at q
      · cases q
        have x := S.sl _ _ e
        rcases hs with ⟨rfl, rfl⟩ | ⟨rfl, rfl⟩
        · obtain ⟨a2, y1, y2, y3⟩ := x
          rw [ha] at y1; cases y1
          exact ⟨a, ha, o, y3⟩
        · obtain ⟨a2, y1, y2, y3⟩ := x
          rw [ha] at y1; cases y1
          exact ⟨a, ha, o, y3⟩
      · cases q
    · rename_i hij
      have x := S.sl j t q
      have ne : ∀ c, σ[j]? = some (some (.ref c)) → t.own = true → c ≠ a := fun c z o z2 => hij (S.sep i j s t a e q os o ha (z2 ▸ z))
      cases t with
      | un => trivial
      | sh d => obtain ⟨v, e, r⟩ := x; exact ⟨v, e, r.mono g.fs⟩
      | ow d => obtain ⟨b', y1, y2, y3⟩ := x; exact ⟨b', y1, y2.grow g (ne b' y1 rfl), y3⟩
      | bo d => obtain ⟨b', y1, y2, y3⟩ := x; exact ⟨b', y1, y2.grow g (ne b' y1 rfl), y3⟩
  · have old : ∀ (j : Nat) (t : Sl), (E.set i s')[j]? = some t → t.own = true → ∃ t', E[j]? = some t' ∧ t'.own = true := fun j t q o => by
      rw [List.getElem?_set] at q
      split at q
      · rename_i hij; subst hij; exact ⟨s, e, os⟩
      · exact ⟨t, q, o⟩
    obtain ⟨t', p1, p2⟩ := old j t q1 o1
    obtain ⟨u', r1, r2⟩ := old k u q2 o2
    exact S.sep j k t' u' c p1 r1 p2 r2 z1 z2
  · obtain ⟨y1, y2, y3⟩ := S.pn c w q
    have ne : c ≠ a := fun z => y3 i s e os (z ▸ ha)
    refine ⟨g.hs c w y1 ne, ?_, fun j t z oz => ?_⟩
    · cases q' : F' c with
      | none => rfl
      | some z =>
        rcases g.nw c (by rw [q']; simp) with h | h
        · exact absurd y2 h
        · rw [y1] at h; cases h
    · rw [List.getElem?_set] at z
      split at z
      · rename_i hij; subst hij; exact y3 i s e os
      · exact y3 j t z oz
/-- an owned slot gives up its thing: it is a fresh result now -/
theorem Sim.give {i : Nat} (S : Sim C B F H E σ) (e : E[i]? = some (.ow d)) : ∃ a, σ[i]? = some (some (.ref a)) ∧ Own C F H a d ∧ B.H0 a = none ∧ Apart (E.set i .un) σ a ∧ B.pin a = none := by
  obtain ⟨a, h1, h2, h3⟩ := S.sl i _ e
  have hp : B.pin a = none := by
    cases q : B.pin a with
    | none => rfl
    | some w => exact absurd h1 ((S.pn a w q).2.2 i _ e rfl)
  refine ⟨a, h1, h2, h3, fun j s q o z => ?_, hp⟩
  rw [List.getElem?_set] at q
  split at q
  · split at q
    · cases q; cases o
    · cases q
  · rename_i hij
    exact hij (S.sep i j _ s a e q rfl o h1 z)
/-- an owned slot's thing is frozen where it stands -/
theorem Sim.freezeAt {i : Nat} (S : Sim C B F H E σ) (e : E[i]? = some (.ow d)) : ∃ F' a, Sim C B F' H (E.set i (.sh d)) σ ∧ Same F F' ∧ σ[i]? = some (some (.ref a)) ∧ Rep C F' (.ref a) d := by
  obtain ⟨a, h1, h2, h3, h4, h5⟩ := S.give e
  obtain ⟨F', S', st, r⟩ := (S.unset i).freeze h2 h3 h4 h5
  refine ⟨F', a, ?_, st, h1, r⟩
  have x := S'.setSh i r
  rw [List.set_set] at x
  have y : σ.set i (some (V.ref a)) = σ := by
    apply List.ext_getElem?
    intro j
    rw [List.getElem?_set]
    split
    · rename_i h; subst h
      split
      · exact h1.symm
      · rename_i h; rw [List.getElem?_eq_none (by omega)] at h1; cases h1
    · rfl
  rw [y] at x
  exact x
end
end MM

/-! MM: the rules. -/
namespace MM
open PySem PySem.Spec PyProof.Rows L2

/-! ### readings -/
def RepX (C : Ctx) (F : Hp) (x : Xc) (cls : Value) (d : Option Addr) : Prop := cls = .ref (C.fa x.c) ∧ match x.fs with
  | none => d = none
  | some fs => ∃ dx fvs, d = some dx ∧ F dx = some (.xd fvs) ∧ RepF C F fvs fs
def Post {α : Type} (C : Ctx) (B : Base) (W : WX) (F : Hp) (σ : St) (K : α → Ev → Prop) : Out α → Prop
  | .ok a E => K a E
  | .ex x E => ∀ cls d F' H', Sim C B F' H' E σ → Same F F' → RepX C F' x cls d → W cls d σ H'
  | .stuck => False
section
variable {C : Ctx} {B : Base} {W : WX} {F F' H H' : Hp} {E E' : Ev} {σ : St}
theorem Post.mono {α : Type} {K K' : α → Ev → Prop} {o : Out α} (p : Post C B W F σ K o) (st : Same F F') (h : ∀ a E, K a E → K' a E) : Post C B W F' σ K' o := by
  cases o with
  | ok a E => exact h a E p
  | ex x E => exact fun cls d F1 H1 S s1 => p cls d F1 H1 S (st.trans s1)
  | stuck => exact p
theorem Post.bind {α β : Type} {K : β → Ev → Prop} {o : Out α} {f : α → Ev → Out β} (p : Post C B W F σ K (o.bind f)) : Post C B W F σ (fun a E => Post C B W F σ K (f a E)) o := by
  cases o with
  | ok a E => exact p
  | ex x E => exact p
  | stuck => exact p
def kE (C : Ctx) (B : Base) (F : Hp) (σ : St) (Q : VK) (r : RV) (E : Ev) : Prop := ∀ v F' H', Sim C B F' H' E σ → Same F F' → RepR C B F' H' E σ r v → Q v H'
def kD (C : Ctx) (B : Base) (F : Hp) (σ : St) (Q : VK) (d : D) (E : Ev) : Prop := ∀ v F' H', Sim C B F' H' E σ → Same F F' → Rep C F' v d → Q v H'
def kA (C : Ctx) (B : Base) (F : Hp) (σ : St) (Q : List V → Hp → Prop) (ds : List D) (E : Ev) : Prop := ∀ vs F' H', Sim C B F' H' E σ → Same F F' → RepL C F' vs ds → Q vs H'
def kT (C : Ctx) (B : Base) (F : Hp) (σ : St) (Q : Bool → Hp → Prop) (b : Bool) (E : Ev) : Prop := ∀ F' H', Sim C B F' H' E σ → Same F F' → Q b H'
end
def tE (C : Ctx) (B : Base) (W : WX) (m : M RV) : TE := fun σ H Q => ∃ F E, Sim C B F H E σ ∧ Post C B W F σ (kE C B F σ Q) (m E)
def tA (C : Ctx) (B : Base) (W : WX) (m : M (List D)) : TA := fun σ H Q => ∃ F E, Sim C B F H E σ ∧ Post C B W F σ (kA C B F σ Q) (m E)
def tT (C : Ctx) (B : Base) (W : WX) (m : M Bool) : TT := fun σ H Q => ∃ F E, Sim C B F H E σ ∧ Post C B W F σ (kT C B F σ Q) (m E)
theorem PE.imp {X : Cx} {e : Expr} {t t' : TE} (h : PE X e t) (i : ∀ σ H Q, t' σ H Q → t σ H Q) : PE X e t' := ⟨fun p s σ H Q I w => h.run p s σ H Q I (i σ H Q w)⟩
theorem PA.imp {X : Cx} {e : List Expr} {t t' : TA} (h : PA X e t) (i : ∀ σ H Q, t' σ H Q → t σ H Q) : PA X e t' := ⟨fun pos p s σ H Q I w => h.run pos p s σ H Q I (i σ H Q w)⟩
theorem PT.imp {X : Cx} {e : Expr} {t t' : TT} (h : PT X e t) (i : ∀ σ H Q, t' σ H Q → t σ H Q) : PT X e t' := ⟨fun p s σ H Q I w => h.run p s σ H Q I (i σ H Q w)⟩
theorem PW.imp {X : Cx} {e : Expr} {t t' : TT} (h : PW X e t) (i : ∀ σ H Q, t' σ H Q → t σ H Q) : PW X e t' := ⟨fun wh p s σ H Q I w => h.run wh p s σ H Q I (i σ H Q w)⟩
theorem PS.imp {X : Cx} {e : Stmt} {t t' : TS} (h : PS X e t) (i : ∀ D σ H, t' D σ H → t D σ H) : PS X e t' := ⟨fun p s σ H D I w => h.run p s σ H D I (i D σ H w)⟩
theorem PSs.imp {X : Cx} {e : List Stmt} {t t' : TS} (h : PSs X e t) (i : ∀ D σ H, t' D σ H → t D σ H) : PSs X e t' := ⟨fun p s σ H D I w => h.run p s σ H D I (i D σ H w)⟩

/-- what an operation made: only new things -/
def NewR (C : Ctx) (F' H H' : Hp) : RV → V → Prop
  | .sh d, v => Rep C F' v d
  | .fr d, v => ∃ a, v = .ref a ∧ H a = none ∧ Own C F' H' a d
section
variable {C : Ctx} {B : Base} {W : WX} {F F' H H' : Hp} {E E' : Ev} {σ : St}
theorem Sim.newR {r : RV} {v : V} (S : Sim C B F H E σ) (g : Grow NoB F H F' H') (n : NewR C F' H H' r v) : Sim C B F' H' E σ ∧ RepR C B F' H' E σ r v := by
  refine ⟨S.grow g, ?_⟩
  cases r with
  | sh d => exact n
  | fr d =>
    obtain ⟨a, e, h0, o⟩ := n
    refine ⟨a, e, o, S.g.bs a h0, fun i s q os z => ?_, ?_⟩
    · obtain ⟨a', d', y1, y2, _⟩ := S.at q os
      rw [z] at y1; cases y1
      obtain ⟨u, hu⟩ := y2.tracked
      rw [h0] at hu; cases hu
    · cases q : B.pin a with
      | none => rfl
      | some w => have := (S.pn a w q).1; rw [h0] at this; cases this
/-- a list, a tuple that is new -/
theorem newT {vs : List V} {ds : List D} (h : Same F H) (r : RepL C F vs ds) {p : Addr} (hp : H p = none) : Grow NoB F H (upd F p (.tup vs)) (upd H p (.tup vs)) ∧ NewR C (upd F p (.tup vs)) H (upd H p (.tup vs)) (.sh (.tup ds)) (.ref p) :=
  ⟨Grow.new h hp, .tup (.inl (.inl upd_same)) (r.mono (Grow.new h hp).fs)⟩
theorem newL {vs : List V} {ds : List D} (h : Same F H) (r : RepL C F vs ds) {p : Addr} (hp : H p = none) : Grow NoB F H F (upd H p (.lst vs)) ∧ NewR C F H (upd H p (.lst vs)) (.fr (.lst ds)) (.ref p) :=
  ⟨Grow.newO h hp, p, rfl, hp, h.free hp, vs, upd_same, r⟩
/-- an operation by values: f tells what it makes (nothing but new things), none: not told -/
def Pure1 (C : Ctx) (r : V → Hp → VK → Prop) (f : D → Option RV) : Prop := ∀ (F H : Hp) (x : V) (dx : D) (R : RV) (Q : VK), Same F H → Rep C F x dx → f dx = some R →
  (∀ v F' H', Grow NoB F H F' H' → NewR C F' H H' R v → Q v H') → r x H Q
def Pure2 (C : Ctx) (r : R2) (f : D → D → Option RV) : Prop := ∀ (F H : Hp) (x y : V) (dx dy : D) (R : RV) (Q : VK), Same F H → Rep C F x dx → Rep C F y dy → f dx dy = some R →
  (∀ v F' H', Grow NoB F H F' H' → NewR C F' H H' R v → Q v H') → r x y H Q
def PureN (C : Ctx) (r : List V → Hp → VK → Prop) (f : List D → Option RV) : Prop := ∀ (F H : Hp) (xs : List V) (ds : List D) (R : RV) (Q : VK), Same F H → RepL C F xs ds → f ds = some R →
  (∀ v F' H', Grow NoB F H F' H' → NewR C F' H H' R v → Q v H') → r xs H Q
theorem NewR.same {d : D} {v : V} (st : Same F H) (h : Rep C F v d) {Q : VK} (q : ∀ v F' H', Grow NoB F H F' H' → NewR C F' H H' (.sh d) v → Q v H') : Q v H := q v F H (Grow.refl st) h
theorem Pure2.or {r r' : R2} {f : D → D → Option RV} {p : D → D → Bool} (h : ∀ F H x y dx dy R Q, Same F H → Rep C F x dx → Rep C F y dy → p dx dy = true → f dx dy = some R → (∀ v F' H', Grow NoB F H F' H' → NewR C F' H H' R v → Q v H') → r x y H Q)
    (h' : ∀ F H x y dx dy R Q, Same F H → Rep C F x dx → Rep C F y dy → p dx dy = false → f dx dy = some R → (∀ v F' H', Grow NoB F H F' H' → NewR C F' H H' R v → Q v H') → r' x y H Q) : Pure2 C (fun x y H Q => r x y H Q ∨ r' x y H Q) f := by
  intro F H x y dx dy R Q st rx ry e q
  cases hp : p dx dy with
  | true => exact .inl (h F H x y dx dy R Q st rx ry hp e q)
  | false => exact .inr (h' F H x y dx dy R Q st rx ry hp e q)
/-- the reading of an operand, then what follows at what it gave -/
theorem tE_go {m : M RV} {α : Type} {K : α → Ev → Prop} {f : RV → Ev → Out α} {Q : VK} (S : Sim C B F H E σ) (p : Post C B W F σ K ((m E).bind f))
    (h : ∀ (r : RV) (E1 : Ev) (v : V) (F1 H1 : Hp), Sim C B F1 H1 E1 σ → Same F F1 → Rep C F1 v r.d → Post C B W F1 σ K (f r E1) → Q v H1) : tE C B W m σ H Q := by
  refine ⟨F, E, S, p.bind.mono (Same.refl F) fun r E1 q v F1 H1 S1 st rr => ?_⟩
  obtain ⟨F2, S2, st2, r2⟩ := S1.toSh rr
  exact h r E1 v F2 H1 S2 (st.trans st2) r2 (q.mono (st.trans st2) fun _ _ z => z)
end

/-! ### what is computed -/
def liftO (o : Option RV) (E : Ev) : Out RV := match o with
  | some r => .ok r E
  | none => .stuck
def e1 (f : D → Option RV) (ma : M RV) : M RV := fun E => (ma E).bind fun a E1 => liftO (f a.d) E1
def e2 (f : D → D → Option RV) (ma mb : M RV) : M RV := fun E => (ma E).bind fun a E1 => (mb E1).bind fun b E2 => liftO (f a.d b.d) E2
def eN (f : List D → Option RV) (ma : M (List D)) : M RV := fun E => (ma E).bind fun ds E1 => liftO (f ds) E1
def eC (d : D) : M RV := fun E => .ok (.sh d) E
def eV (i : Nat) : M RV := fun E => match E[i]? with
  | some (.sh d) => .ok (.sh d) E
  | some (.ow d) => .ok (.sh d) (E.set i (.sh d))
  | _ => .stuck
def aNil : M (List D) := fun E => .ok [] E
def aCons (ma : M RV) (mr : M (List D)) : M (List D) := fun E => (ma E).bind fun a E1 => (mr E1).bind fun ds E2 => .ok (a.d :: ds) E2
def eIf (mt : M Bool) (ma mb : M RV) : M RV := fun E => (mt E).bind fun b E1 => if b then ma E1 else mb E1
section
variable {C : Ctx} {B : Base} {W : WX} {X : Cx} {pos : Pos} {a b : Expr} {ma mb : M RV}
theorem kE_new {F F1 H1 : Hp} {E1 : Ev} {σ : St} {Q : VK} {o : Option RV} (S1 : Sim C B F1 H1 E1 σ) (st : Same F F1) (p : Post C B W F1 σ (kE C B F σ Q) (liftO o E1)) :
    ∃ R, o = some R ∧ ∀ v F' H', Grow NoB F1 H1 F' H' → NewR C F' H1 H' R v → Q v H' := by
  cases o with
  | none => exact p.elim
  | some R =>
    refine ⟨R, rfl, fun v F' H' g n => ?_⟩
    obtain ⟨S2, rr⟩ := S1.newR g n
    exact p v F' H' S2 (st.trans g.fs) rr
theorem pe_c {d : D} {v : V} (h : PE X a (tC v)) (r : ∀ F, Rep C F v d) : PE X a (tE C B W (eC d)) := PE.imp h fun σ H Q ⟨F, E, S, p⟩ => p v F H S (Same.refl F) (r F)
theorem me_int {i j} : PE X (.Constant (.int i) j pos) (tE C B W (eC (.int i))) := pe_c pe_int fun _ => .int i
theorem me_bl {i j} : PE X (.Constant (.bool i) j pos) (tE C B W (eC (.bl i))) := pe_c pe_bl fun _ => .bl i
theorem me_non {j} : PE X (.Constant .none j pos) (tE C B W (eC .non)) := pe_c pe_non fun _ => .non
theorem me_str {x j} : PE X (.Constant (.str x) j pos) (tE C B W (eC (.str x))) := pe_c pe_str fun _ => .str x
/-- a def or a class of the text as a value -/
theorem me_gl {x : Str} (n : Nat) (hg : Gl X x) (hm : X.mg x = some (.ref (C.fa n))) (hd : (x == ("__debug__" : Str)) = false := by decide) : PE X (.Name x pos) (tE C B W (eC (.gl n))) := pe_c (pe_glob (v := .ref (C.fa n)) hg hm rfl hd) fun _ => .gl n
theorem me_ty {x : Str} (s : Ty) (hg : Gl X x) (hm : X.mg x = none) (hv : bootBuiltins x = some (.type s.name)) (hn : x ≠ "__name__" := by decide) (hd : (x == ("__debug__" : Str)) = false := by decide) : PE X (.Name x pos) (tE C B W (eC (.ty s))) :=
  pe_c (pe_bltn hg hm hv (v := .ty s.name) rfl hn hd) fun _ => .ty s
theorem me_var (i : Nat) {x : Str} (hN : X.N[i]? = some x := by rfl) (hv : Vis X.env.scope x := by first | exact Or.inl rfl | exact Or.inr (Or.inl rfl) | exact Or.inr (Or.inr rfl)) (hd : (x == ("__debug__" : Str)) = false := by decide)
    (hcd : (x == ("__classdict__" : Str)) = false := by decide) : PE X (.Name x pos) (tE C B W (eV i)) := by
  refine PE.imp (pe_var hN hv hd hcd) fun σ H Q ⟨F, E, S, p⟩ => ?_
  unfold eV at p
  cases e : E[i]? with
  | none => rw [e] at p; exact p.elim
  | some s =>
    rw [e] at p
    cases s with
    | un => exact p.elim
    | bo d => exact p.elim
    | sh d =>
      obtain ⟨v, h1, h2⟩ := S.sl i _ e
      exact ⟨v, h1, p v F H S (Same.refl F) h2⟩
    | ow d =>
      obtain ⟨F', a', S', st, h1, h2⟩ := S.freezeAt e
      exact ⟨_, h1, p _ F' H S' st h2⟩
theorem me_e1 {op : UnaryOp} {r : V → Hp → VK → Prop} {f : D → Option RV} (ho : UnR X (unaryOp op) r) (pr : Pure1 C r f) (ha : PE X a (tE C B W ma)) : PE X (.UnaryOp op a pos) (tE C B W (e1 f ma)) := by
  refine PE.imp (pe_un ho ha) fun σ H Q ⟨F, E, S, p⟩ => ?_
  refine tE_go S p fun ra E1 x F1 H1 S1 st1 r1 p1 => ?_
  obtain ⟨R, e, q⟩ := kE_new S1 st1 p1
  exact pr F1 H1 x ra.d R Q S1.fh r1 e q
theorem tE_2 {f : D → D → Option RV} {r : R2} (pr : Pure2 C r f) : ∀ σ H Q, tE C B W (e2 f ma mb) σ H Q → tOp r (tE C B W ma) (tE C B W mb) σ H Q := fun σ H Q ⟨F, E, S, p⟩ => by
  refine tE_go S p fun ra E1 x F1 H1 S1 st1 r1 p1 => ?_
  refine tE_go S1 p1 fun rb E2 y F2 H2 S2 st2 r2 p2 => ?_
  obtain ⟨R, e, q⟩ := kE_new S2 (st1.trans st2) p2
  exact pr F2 H2 x y ra.d rb.d R Q S2.fh (r1.mono st2) r2 e q
theorem me_op {op : Operator} {r : R2} {f : D → D → Option RV} (ho : OpR X (binaryOp op) r) (pr : Pure2 C r f) (ha : PE X a (tE C B W ma)) (hb : PE X b (tE C B W mb)) : PE X (.BinOp a op b pos) (tE C B W (e2 f ma mb)) :=
  PE.imp (pe_op ho ha hb) (tE_2 pr)
theorem me_ix {r : R2} {f : D → D → Option RV} (ho : IxR X r) (pr : Pure2 C r f) (ha : PE X a (tE C B W ma)) (hb : PE X b (tE C B W mb)) (hs : PlainIx b) : PE X (.Subscript a b pos) (tE C B W (e2 f ma mb)) :=
  PE.imp (pe_ix ho ha hb hs) (tE_2 pr)
def cmp (g : D → D → Option Bool) (a b : D) : Option RV := (g a b).map fun k => .sh (.bl k)
def PureC (C : Ctx) (r : R2) (g : D → D → Option Bool) : Prop := ∀ (F H : Hp) (x y : V) (dx dy : D) (k : Bool) (Q : VK), Same F H → Rep C F x dx → Rep C F y dy → g dx dy = some k → Q (.bl k) H → r x y H Q
theorem PureC.p2 {r : R2} {g : D → D → Option Bool} (h : PureC C r g) : Pure2 C r (cmp g) := by
  intro F H x y dx dy R Q st rx ry e q
  unfold cmp at e
  cases hg : g dx dy with
  | none => rw [hg] at e; cases e
  | some k =>
    rw [hg] at e; cases e
    exact h F H x y dx dy k Q st rx ry hg (NewR.same st (.bl k) q)
theorem me_cmp {op : CmpOp} {r : R2} {g : D → D → Option Bool} (ho : OpR X (compareOp op) r) (pr : PureC C r g) (ha : PE X a (tE C B W ma)) (hb : PE X b (tE C B W mb)) (hm : behindInMarks op b = false) : PE X (.Compare a [op] [b] pos) (tE C B W (e2 (cmp g) ma mb)) :=
  PE.imp (pe_cmpR ho ha hb hm) (tE_2 pr.p2)
def t2 (g : D → D → Option Bool) (ma mb : M RV) : M Bool := fun E => (ma E).bind fun a E1 => (mb E1).bind fun b E2 => match g a.d b.d with
  | some k => .ok k E2
  | none => .stuck
theorem mt_cmp {op : CmpOp} {r : R2} {g : D → D → Option Bool} (ho : OpR X (compareOp op) r) (pr : PureC C r g) (ha : PE X a (tE C B W ma)) (hb : PE X b (tE C B W mb)) (hm : behindInMarks op b = false) : PT X (.Compare a [op] [b] pos) (tT C B W (t2 g ma mb)) := by
  refine PT.imp (pt_cmpR ho ha hb hm) fun σ H Q ⟨F, E, S, p⟩ => ?_
  refine tE_go S p fun ra E1 x F1 H1 S1 st1 r1 p1 => ?_
  refine tE_go S1 p1 fun rb E2 y F2 H2 S2 st2 r2 p2 => ?_
  cases hg : g ra.d rb.d with
  | none => rw [hg] at p2; exact p2.elim
  | some k =>
    rw [hg] at p2
    exact pr F2 H2 x y ra.d rb.d k _ S2.fh (r1.mono st2) r2 hg ⟨k, rfl, p2 F2 H2 S2 (st1.trans st2)⟩
/-- truth -/
def truD : D → Option Bool
  | .non => some false
  | .bl b => some b
  | .int i => some (i != 0)
  | .str y => if y.length ≤ sizeLine then some ((y.length : Int) != 0) else none
  | .lst xs => some (!xs.isEmpty)
  | .tup xs => some (!xs.isEmpty)
  | _ => none
def tV (ma : M RV) : M Bool := fun E => (ma E).bind fun a E1 => match truD a.d with
  | some k => .ok k E1
  | none => .stuck
theorem isEmptyL {F : Hp} {vs : List V} {ds : List D} (r : RepL C F vs ds) : vs.isEmpty = ds.isEmpty := by cases r <;> rfl
theorem tru_of {F H : Hp} {x : V} {d : D} {k : Bool} (hK : X.K = C.K) (st : Same F H) (r : Rep C F x d) (h : truD d = some k) : TruV X.K x H k := by
  cases r with
  | non => cases h; rfl
  | bl b => cases h; rfl
  | int i => cases h; rfl
  | str x =>
    have h : (if x.length ≤ sizeLine then some ((x.length : Int) != 0) else none) = some k := h
    split at h
    · rename_i hl; cases h; exact ⟨hl, rfl⟩
    · cases h
  | gl n => cases h
  | ty s => cases h
  | tup hs hr => cases h; rw [hK]; exact .inr (.inl ⟨_, SqT_mono st hs, by rw [isEmptyL hr]⟩)
  | lst hs hr => cases h; rw [hK]; exact .inl ⟨_, SqL.of (st _ _ hs), by rw [isEmptyL hr]⟩
  | scr hs hr => cases h
  | obj _ _ => cases h
  | dicK _ _ => cases h
  | dicT _ _ => cases h
theorem mt_v (hK : X.K = C.K) (ha : PE X a (tE C B W ma)) (he : ∀ whole, isTrue a X.env whole = (do let v ← whole; standAt a.pos; holding [v] (truthy v)) := by intro _; rfl) : PT X a (tT C B W (tV ma)) := by
  refine PT.imp (pt_truth ha he) fun σ H Q ⟨F, E, S, p⟩ => ?_
  refine tE_go S p fun ra E1 x F1 H1 S1 st1 r1 p1 => ?_
  cases hg : truD ra.d with
  | none => rw [hg] at p1; exact p1.elim
  | some k => rw [hg] at p1; exact ⟨k, tru_of hK S1.fh r1 hg, p1 F1 H1 S1 st1⟩
/-! ### and, or, not -/
def tAnd (ta tb : M Bool) : M Bool := fun E => (ta E).bind fun c E1 => if c = true then tb E1 else .ok false E1
def tOr (ta tb : M Bool) : M Bool := fun E => (ta E).bind fun c E1 => if c = true then .ok true E1 else tb E1
def tNot (ta : M Bool) : M Bool := fun E => (ta E).bind fun c E1 => .ok (!c) E1
theorem tT_go {ta : M Bool} {α : Type} {K : α → Ev → Prop} {f : Bool → Ev → Out α} {Q : Bool → Hp → Prop} {F H : Hp} {E : Ev} {σ : St} (S : Sim C B F H E σ) (p : Post C B W F σ K ((ta E).bind f))
    (h : ∀ (k : Bool) (E1 : Ev) (F1 H1 : Hp), Sim C B F1 H1 E1 σ → Same F F1 → Post C B W F1 σ K (f k E1) → Q k H1) : tT C B W ta σ H Q :=
  ⟨F, E, S, p.bind.mono (Same.refl F) fun k E1 q F1 H1 S1 st => h k E1 F1 H1 S1 st (q.mono st fun _ _ z => z)⟩
variable {ta tb : M Bool} {rest : List Expr}
theorem mw_1 (ha : PT X a (tT C B W ta)) : PW X (.BoolOp .And [a] pos) (tT C B W ta) := pw_and1 ha
theorem mw_o1 (ha : PT X a (tT C B W ta)) : PW X (.BoolOp .Or [a] pos) (tT C B W ta) := pw_or1 ha
theorem mw_and (ha : PT X a (tT C B W ta)) (hb : PW X (.BoolOp .And (b :: rest) pos) (tT C B W tb)) : PW X (.BoolOp .And (a :: b :: rest) pos) (tT C B W (tAnd ta tb)) := by
  refine PW.imp (pw_and ha hb) fun σ H Q ⟨F, E, S, p⟩ => ?_
  refine tT_go S p fun k E1 F1 H1 S1 st1 p1 => ?_
  cases k with
  | true => exact ⟨F1, E1, S1, p1.mono (Same.refl F1) fun c E2 z F2 H2 S2 st2 => z F2 H2 S2 (st1.trans st2)⟩
  | false => exact p1 F1 H1 S1 st1
theorem mw_or (ha : PT X a (tT C B W ta)) (hb : PW X (.BoolOp .Or (b :: rest) pos) (tT C B W tb)) : PW X (.BoolOp .Or (a :: b :: rest) pos) (tT C B W (tOr ta tb)) := by
  refine PW.imp (pw_or ha hb) fun σ H Q ⟨F, E, S, p⟩ => ?_
  refine tT_go S p fun k E1 F1 H1 S1 st1 p1 => ?_
  cases k with
  | false => exact ⟨F1, E1, S1, p1.mono (Same.refl F1) fun c E2 z F2 H2 S2 st2 => z F2 H2 S2 (st1.trans st2)⟩
  | true => exact p1 F1 H1 S1 st1
theorem mt_not (ha : PT X a (tT C B W ta)) : PT X (.UnaryOp .Not a pos) (tT C B W (tNot ta)) := by
  refine PT.imp (pt_not ha) fun σ H Q ⟨F, E, S, p⟩ => ?_
  exact tT_go S p fun k E1 F1 H1 S1 st1 p1 => p1 F1 H1 S1 st1
theorem me_if {c : Expr} (hc : PT X c (tT C B W ta)) (ha : PE X a (tE C B W ma)) (hb : PE X b (tE C B W mb)) : PE X (.IfExp c a b pos) (tE C B W (eIf ta ma mb)) := by
  refine PE.imp (pe_ifExp hc ha hb) fun σ H Q ⟨F, E, S, p⟩ => ?_
  refine tT_go S p fun k E1 F1 H1 S1 st1 p1 => ?_
  have go : ∀ m : M RV, Post C B W F1 σ (kE C B F σ Q) (m E1) → tE C B W m σ H1 Q := fun m p => ⟨F1, E1, S1, p.mono (Same.refl F1) fun c E2 z v F2 H2 S2 st2 r => z v F2 H2 S2 (st1.trans st2) r⟩
  cases k with
  | true => exact go _ p1
  | false => exact go _ p1
/-- as values: all but the last True or False -/
def eAnd (ma mb : M RV) : M RV := fun E => (ma E).bind fun a E1 => match a.d with
  | .bl true => mb E1
  | .bl false => .ok (.sh (.bl false)) E1
  | _ => .stuck
def eOr (ma mb : M RV) : M RV := fun E => (ma E).bind fun a E1 => match a.d with
  | .bl false => mb E1
  | .bl true => .ok (.sh (.bl true)) E1
  | _ => .stuck
def eNot (ma : M RV) : M RV := fun E => (ma E).bind fun a E1 => match a.d with
  | .bl k => .ok (.sh (.bl (!k))) E1
  | _ => .stuck
theorem tE_up {m : M RV} {F F1 H1 : Hp} {E1 : Ev} {σ : St} {Q : VK} (S1 : Sim C B F1 H1 E1 σ) (st1 : Same F F1) (p : Post C B W F1 σ (kE C B F σ Q) (m E1)) : tE C B W m σ H1 Q :=
  ⟨F1, E1, S1, p.mono (Same.refl F1) fun c E2 z v F2 H2 S2 st2 r => z v F2 H2 S2 (st1.trans st2) r⟩
theorem me_one {op} {m : M RV} (h : PE X a (tE C B W m)) : PE X (.BoolOp op [a] pos) (tE C B W m) := pe_one h
theorem me_and (ha : PE X a (tE C B W ma)) (hb : PE X (.BoolOp .And (b :: rest) pos) (tE C B W mb)) : PE X (.BoolOp .And (a :: b :: rest) pos) (tE C B W (eAnd ma mb)) := by
  refine PE.imp (pe_and ha hb) fun σ H Q ⟨F, E, S, p⟩ => ?_
  refine tE_go S p fun r E1 v F1 H1 S1 st1 r1 p1 => ?_
  cases hd : r.d with
  | bl k =>
    rw [hd] at r1 p1
    cases r1
    refine ⟨k, rfl, ?_⟩
    cases k with
    | true => exact tE_up S1 st1 p1
    | false => exact p1 _ F1 H1 S1 st1 (.bl false)
  | _ => rw [hd] at p1; exact p1.elim
theorem me_or (ha : PE X a (tE C B W ma)) (hb : PE X (.BoolOp .Or (b :: rest) pos) (tE C B W mb)) : PE X (.BoolOp .Or (a :: b :: rest) pos) (tE C B W (eOr ma mb)) := by
  refine PE.imp (pe_or ha hb) fun σ H Q ⟨F, E, S, p⟩ => ?_
  refine tE_go S p fun r E1 v F1 H1 S1 st1 r1 p1 => ?_
  cases hd : r.d with
  | bl k =>
    rw [hd] at r1 p1
    cases r1
    refine ⟨k, rfl, ?_⟩
    cases k with
    | false => exact tE_up S1 st1 p1
    | true => exact p1 _ F1 H1 S1 st1 (.bl true)
  | _ => rw [hd] at p1; exact p1.elim
theorem me_not (ha : PE X a (tE C B W ma)) : PE X (.UnaryOp .Not a pos) (tE C B W (eNot ma)) := by
  refine PE.imp (pe_not ha) fun σ H Q ⟨F, E, S, p⟩ => ?_
  refine tE_go S p fun r E1 v F1 H1 S1 st1 r1 p1 => ?_
  cases hd : r.d with
  | bl k =>
    rw [hd] at r1 p1
    cases r1
    exact ⟨k, rfl, p1 _ F1 H1 S1 st1 (.bl _)⟩
  | _ => rw [hd] at p1; exact p1.elim
/-- a op b op c -/
def eChain (g g' : D → D → Option Bool) (ma mb mc : M RV) : M RV := fun E => (ma E).bind fun a E1 => (mb E1).bind fun b E2 => match g a.d b.d with
  | some true => (mc E2).bind fun c E3 => liftO (cmp g' b.d c.d) E3
  | some false => .ok (.sh (.bl false)) E2
  | none => .stuck
def tChain (g g' : D → D → Option Bool) (ma mb mc : M RV) : M Bool := fun E => (ma E).bind fun a E1 => (mb E1).bind fun b E2 => match g a.d b.d with
  | some true => (mc E2).bind fun c E3 => match g' b.d c.d with
    | some k => .ok k E3
    | none => .stuck
  | some false => .ok false E2
  | none => .stuck
theorem me_chain {c : Expr} {mc : M RV} {op op' : CmpOp} {r r' : R2} {g g' : D → D → Option Bool} (ho : OpR X (compareOp op) r) (ho' : OpR X (compareOp op') r') (pr : PureC C r g) (pr' : PureC C r' g') (ha : PE X a (tE C B W ma)) (hb : PE X b (tE C B W mb)) (hc : PE X c (tE C B W mc))
    (hm : lastMarks [op, op'] [b, c] = false := by with_unfolding_all rfl) : PE X (.Compare a [op, op'] [b, c] pos) (tE C B W (eChain g g' ma mb mc)) := by
  refine PE.imp (pe_chain ho ho' ha hb hc hm) fun σ H Q ⟨F, E, S, p⟩ => ?_
  refine tE_go S p fun ra E1 x F1 H1 S1 st1 r1 p1 => ?_
  refine tE_go S1 p1 fun rb E2 y F2 H2 S2 st2 r2 p2 => ?_
  cases hg : g ra.d rb.d with
  | none => rw [hg] at p2; exact p2.elim
  | some k =>
    rw [hg] at p2
    refine pr F2 H2 x y ra.d rb.d k _ S2.fh (r1.mono st2) r2 hg ⟨k, rfl, ?_⟩
    cases k with
    | false => exact p2 _ F2 H2 S2 (st1.trans st2) (.bl false)
    | true =>
      refine tE_go S2 p2 fun rc E3 z F3 H3 S3 st3 r3 p3 => ?_
      obtain ⟨R, e, q⟩ := kE_new S3 (st1.trans (st2.trans st3)) p3
      exact pr'.p2 F3 H3 y z rb.d rc.d R Q S3.fh (r2.mono st3) r3 e q
theorem mt_chain {c : Expr} {mc : M RV} {op op' : CmpOp} {r r' : R2} {g g' : D → D → Option Bool} (ho : OpR X (compareOp op) r) (ho' : OpR X (compareOp op') r') (pr : PureC C r g) (pr' : PureC C r' g') (ha : PE X a (tE C B W ma)) (hb : PE X b (tE C B W mb)) (hc : PE X c (tE C B W mc))
    (hm : lastMarks [op, op'] [b, c] = false := by with_unfolding_all rfl) : PT X (.Compare a [op, op'] [b, c] pos) (tT C B W (tChain g g' ma mb mc)) := by
  refine PT.imp (pt_chain ho ho' ha hb hc hm) fun σ H Q ⟨F, E, S, p⟩ => ?_
  refine tE_go S p fun ra E1 x F1 H1 S1 st1 r1 p1 => ?_
  refine tE_go S1 p1 fun rb E2 y F2 H2 S2 st2 r2 p2 => ?_
  cases hg : g ra.d rb.d with
  | none => rw [hg] at p2; exact p2.elim
  | some k =>
    rw [hg] at p2
    refine pr F2 H2 x y ra.d rb.d k _ S2.fh (r1.mono st2) r2 hg ⟨k, rfl, ?_⟩
    cases k with
    | false => exact ⟨false, rfl, p2 F2 H2 S2 (st1.trans st2)⟩
    | true =>
      refine tE_go S2 p2 fun rc E3 z F3 H3 S3 st3 r3 p3 => ?_
      cases hg' : g' rb.d rc.d with
      | none => rw [hg'] at p3; exact p3.elim
      | some k' =>
        rw [hg'] at p3
        exact pr' F3 H3 y z rb.d rc.d k' _ S3.fh (r2.mono st3) r3 hg' ⟨k', rfl, p3 F3 H3 S3 (st1.trans (st2.trans st3))⟩
/-! ### arguments, displays -/
variable {es : List Expr} {mr : M (List D)}
theorem ma_nil : PA X [] (tA C B W aNil) := PA.imp pa_nil fun σ H Q ⟨F, E, S, p⟩ => p [] F H S (Same.refl F) .nil
theorem tA_go {ms : M (List D)} {α : Type} {K : α → Ev → Prop} {f : List D → Ev → Out α} {Q : List V → Hp → Prop} {F H : Hp} {E : Ev} {σ : St} (S : Sim C B F H E σ) (p : Post C B W F σ K ((ms E).bind f))
    (h : ∀ (ds : List D) (E1 : Ev) (vs : List V) (F1 H1 : Hp), Sim C B F1 H1 E1 σ → Same F F1 → RepL C F1 vs ds → Post C B W F1 σ K (f ds E1) → Q vs H1) : tA C B W ms σ H Q :=
  ⟨F, E, S, p.bind.mono (Same.refl F) fun ds E1 q vs F1 H1 S1 st r => h ds E1 vs F1 H1 S1 st r (q.mono st fun _ _ z => z)⟩
theorem ma_cons (ha : PE X a (tE C B W ma)) (hr : PA X es (tA C B W mr)) (hs : starEach (a :: es) X.env = (false, eval a X.env) :: starEach es X.env := by rfl) : PA X (a :: es) (tA C B W (aCons ma mr)) := by
  refine PA.imp (pa_cons ha hr hs) fun σ H Q ⟨F, E, S, p⟩ => ?_
  refine tE_go S p fun ra E1 x F1 H1 S1 st1 r1 p1 => ?_
  refine tA_go S1 p1 fun ds E2 vs F2 H2 S2 st2 r2 p2 => ?_
  exact p2 (x :: vs) F2 H2 S2 (st1.trans st2) (.cons (r1.mono st2) r2)
def fTup (ds : List D) : Option RV := if ds.length ≤ sizeLine then some (.sh (.tup ds)) else none
def fLst (ds : List D) : Option RV := if ds.length ≤ sizeLine then some (.fr (.lst ds)) else none
theorem me_tup {k} (h : PA X es (tA C B W mr)) : PE X (.Tuple es k pos) (tE C B W (eN fTup mr)) := by
  refine PE.imp (pe_tup h) fun σ H Q ⟨F, E, S, p⟩ => ?_
  refine tA_go S p fun ds E1 vs F1 H1 S1 st1 r1 p1 => ?_
  obtain ⟨R, e, q⟩ := kE_new S1 st1 p1
  unfold fTup at e
  split at e
  · rename_i hl; cases e
    refine ⟨by rw [r1.length]; exact hl, fun p' hp => ?_⟩
    obtain ⟨g, n⟩ := newT S1.fh r1 hp
    exact q _ _ _ g n
  · cases e
theorem me_lst (h : PA X es (tA C B W mr)) : PE X (.List es pos) (tE C B W (eN fLst mr)) := by
  refine PE.imp (pe_lst h) fun σ H Q ⟨F, E, S, p⟩ => ?_
  refine tA_go S p fun ds E1 vs F1 H1 S1 st1 r1 p1 => ?_
  obtain ⟨R, e, q⟩ := kE_new S1 st1 p1
  unfold fLst at e
  split at e
  · rename_i hl; cases e
    refine ⟨by rw [r1.length]; exact hl, fun p' hp => ?_⟩
    obtain ⟨g, n⟩ := newL S1.fh r1 hp
    exact q _ _ _ g n
  · cases e
/-! ### calls of built-ins -/
theorem tE_N {f : List D → Option RV} {r : List V → Hp → VK → Prop} (pr : PureN C r f) : ∀ σ H Q, tE C B W (eN f mr) σ H Q → tCB r (tA C B W mr) σ H Q := fun σ H Q ⟨F, E, S, p⟩ => by
  refine tA_go S p fun ds E1 vs F1 H1 S1 st1 r1 p1 => ?_
  obtain ⟨R, e, q⟩ := kE_new S1 st1 p1
  exact pr F1 H1 vs ds R Q S1.fh r1 e q
variable {x : Str} {p : Pos} {id T : String} {e : Expr}
theorem me_callB {r : List V → Hp → VK → Prop} {f : List D → Option RV} (hc : CallR X (.builtin id) r) (pr : PureN C r f) (hg : Gl X x) (hm : X.mg x = none) (hv : bootBuiltins x = some (.builtin id)) (ha : PA X (e :: es) (tA C B W mr)) (hn : x ≠ "__name__" := by decide) (hdb : (x == ("__debug__" : Str)) = false := by decide)
    (he : starEach (e :: es) X.env = (false, eval e X.env) :: starEach es X.env := by rfl) (hpl : (backTo pos (starEach es X.env)).any (·.1) = false := by rfl) : PE X (.Call (.Name x p) (e :: es) [] pos) (tE C B W (eN f mr)) :=
  PE.imp (pe_callB hc hg hm hv ha hn hdb he hpl) (tE_N pr)
theorem me_callTy {r : List V → Hp → VK → Prop} {f : List D → Option RV} (hc : CallR X (.type T) r) (pr : PureN C r f) (hg : Gl X x) (hm : X.mg x = none) (hv : bootBuiltins x = some (.type T)) (ha : PA X (e :: es) (tA C B W mr)) (hn : x ≠ "__name__" := by decide) (hdb : (x == ("__debug__" : Str)) = false := by decide)
    (he : starEach (e :: es) X.env = (false, eval e X.env) :: starEach es X.env := by rfl) (hpl : (backTo pos (starEach es X.env)).any (·.1) = false := by rfl) : PE X (.Call (.Name x p) (e :: es) [] pos) (tE C B W (eN f mr)) :=
  PE.imp (pe_callTy hc hg hm hv ha hn hdb he hpl) (tE_N pr)
end
end MM

/-! MM: statements, loops, calls. -/
namespace MM
open PySem PySem.Spec PyProof.Rows L2

inductive Fl where
  | nx | rt (r : RV) | bk | ct
def kS (C : Ctx) (B : Base) (F : Hp) (D : Ends) : Fl → Ev → Prop
  | .nx, E => ∀ σ F' H', Sim C B F' H' E σ → Same F F' → D.nx σ H'
  | .rt r, E => ∀ σ v F' H', Sim C B F' H' E σ → Same F F' → RepR C B F' H' E σ r v → D.rt v H'
  | .bk, E => ∀ σ F' H', Sim C B F' H' E σ → Same F F' → D.bk σ H'
  | .ct, E => ∀ σ F' H', Sim C B F' H' E σ → Same F F' → D.ct σ H'
def PostS {α : Type} (C : Ctx) (B : Base) (W : WX) (F : Hp) (K : α → Ev → Prop) : Out α → Prop
  | .ok a E => K a E
  | .ex x E => ∀ σ cls d F' H', Sim C B F' H' E σ → Same F F' → RepX C F' x cls d → W cls d σ H'
  | .stuck => False
def tS (C : Ctx) (B : Base) (W : WX) (m : M Fl) : TS := fun D σ H => ∃ F E, Sim C B F H E σ ∧ PostS C B W F (kS C B F D) (m E)
abbrev Tgt := D → Ev → Option Ev
abbrev Tgts := List D → Ev → Option Ev
/-- what a target may set: the slots js -/
def Upto (js : List Nat) (σ σ' : St) : Prop := σ'.length = σ.length ∧ ∀ j, j ∉ js → σ'[j]? = σ[j]?
def tG (C : Ctx) (B : Base) (js : List Nat) (g : Tgt) : TG := fun v σ H Q => ∃ F E d E', Sim C B F H E σ ∧ Rep C F v d ∧ g d E = some E' ∧ ∀ σ' F' H', Sim C B F' H' E' σ' → Same F F' → Upto js σ σ' → Q σ' H'
def tGs (C : Ctx) (B : Base) (js : List Nat) (g : Tgts) : TGs := fun vs σ H Q => ∃ F E ds E', Sim C B F H E σ ∧ RepL C F vs ds ∧ g ds E = some E' ∧ ∀ σ' F' H', Sim C B F' H' E' σ' → Same F F' → Upto js σ σ' → Q σ' H'
theorem Upto.refl (js : List Nat) (σ : St) : Upto js σ σ := ⟨rfl, fun _ _ => rfl⟩
theorem Upto.trans {js js' : List Nat} {σ σ' σ'' : St} (a : Upto js σ σ') (b : Upto js' σ' σ'') : Upto (js ++ js') σ σ'' :=
  ⟨b.1.trans a.1, fun j h => by
    simp only [List.mem_append, not_or] at h
    rw [b.2 j h.2, a.2 j h.1]⟩
section
variable {C : Ctx} {B : Base} {W : WX} {F F' H H' : Hp} {E E' : Ev} {σ : St}
theorem PostS.mono {α : Type} {K K' : α → Ev → Prop} {o : Out α} (p : PostS C B W F K o) (st : Same F F') (h : ∀ a E, K a E → K' a E) : PostS C B W F' K' o := by
  cases o with
  | ok a E => exact h a E p
  | ex x E => exact fun σ cls d F1 H1 S s1 => p σ cls d F1 H1 S (st.trans s1)
  | stuck => exact p
theorem PostS.bind {α β : Type} {K : β → Ev → Prop} {o : Out α} {f : α → Ev → Out β} (p : PostS C B W F K (o.bind f)) : PostS C B W F (fun a E => PostS C B W F K (f a E)) o := by
  cases o with
  | ok a E => exact p
  | ex x E => exact p
  | stuck => exact p
theorem PostS.e {α : Type} {K K' : α → Ev → Prop} {o : Out α} (p : PostS C B W F K o) (h : ∀ a E, K a E → K' a E) : Post C B W F σ K' o := by
  cases o with
  | ok a E => exact h a E p
  | ex x E => exact fun cls d F1 H1 S s1 => p σ cls d F1 H1 S s1
  | stuck => exact p
theorem kS.mono {D : Ends} {f : Fl} (p : kS C B F D f E) (st : Same F F') : kS C B F' D f E := by
  cases f with
  | nx => exact fun σ F1 H1 S s1 => p σ F1 H1 S (st.trans s1)
  | rt r => exact fun σ v F1 H1 S s1 => p σ v F1 H1 S (st.trans s1)
  | bk => exact fun σ F1 H1 S s1 => p σ F1 H1 S (st.trans s1)
  | ct => exact fun σ F1 H1 S s1 => p σ F1 H1 S (st.trans s1)
/-- an expression within a statement -/
theorem sE_go {m : M RV} {α : Type} {K : α → Ev → Prop} {f : RV → Ev → Out α} {Q : VK} (S : Sim C B F H E σ) (p : PostS C B W F K ((m E).bind f))
    (h : ∀ (r : RV) (E1 : Ev) (v : V) (F1 H1 : Hp), Sim C B F1 H1 E1 σ → Same F F1 → RepR C B F1 H1 E1 σ r v → PostS C B W F1 K (f r E1) → Q v H1) : tE C B W m σ H Q :=
  ⟨F, E, S, p.bind.e fun r E1 q v F1 H1 S1 st rr => h r E1 v F1 H1 S1 st rr (q.mono st fun _ _ z => z)⟩
theorem sT_go {m : M Bool} {α : Type} {K : α → Ev → Prop} {f : Bool → Ev → Out α} {Q : Bool → Hp → Prop} (S : Sim C B F H E σ) (p : PostS C B W F K ((m E).bind f))
    (h : ∀ (k : Bool) (E1 : Ev) (F1 H1 : Hp), Sim C B F1 H1 E1 σ → Same F F1 → PostS C B W F1 K (f k E1) → Q k H1) : tT C B W m σ H Q :=
  ⟨F, E, S, p.bind.e fun r E1 q F1 H1 S1 st => h r E1 F1 H1 S1 st (q.mono st fun _ _ z => z)⟩
theorem sA_go {m : M (List D)} {α : Type} {K : α → Ev → Prop} {f : List D → Ev → Out α} {Q : List V → Hp → Prop} (S : Sim C B F H E σ) (p : PostS C B W F K ((m E).bind f))
    (h : ∀ (ds : List D) (E1 : Ev) (vs : List V) (F1 H1 : Hp), Sim C B F1 H1 E1 σ → Same F F1 → RepL C F1 vs ds → PostS C B W F1 K (f ds E1) → Q vs H1) : tA C B W m σ H Q :=
  ⟨F, E, S, p.bind.e fun ds E1 q vs F1 H1 S1 st r => h ds E1 vs F1 H1 S1 st r (q.mono st fun _ _ z => z)⟩
theorem tS_up {m : M Fl} {D : Ends} {F1 H1 : Hp} {E1 : Ev} (S1 : Sim C B F1 H1 E1 σ) (st : Same F F1) (p : PostS C B W F1 (kS C B F D) (m E1)) : tS C B W m D σ H1 :=
  ⟨F1, E1, S1, p.mono (Same.refl F1) fun _ _ z => z.mono st⟩
end

/-! ### what a block does -/
def sNx : M Fl := fun E => .ok .nx E
def sSeq (m1 m2 : M Fl) : M Fl := fun E => (m1 E).bind fun f E1 => match f with
  | .nx => m2 E1
  | f => .ok f E1
def sDrop (m : M RV) : M Fl := fun E => (m E).bind fun _ E1 => .ok .nx E1
def sRet (m : M RV) : M Fl := fun E => (m E).bind fun r E1 => .ok (.rt r) E1
def sRetN : M Fl := fun E => .ok (.rt (.sh .non)) E
def sIf (mt : M Bool) (ma mb : M Fl) : M Fl := fun E => (mt E).bind fun b E1 => if b = true then ma E1 else mb E1
def sAsg (i : Nat) (m : M RV) : M Fl := fun E => (m E).bind fun r E1 => match r with
  | .sh d => .ok .nx (E1.set i (.sh d))
  | .fr d => .ok .nx (E1.set i (.ow d))
def goNx (o : Option Ev) : Out Fl := match o with
  | some E => .ok .nx E
  | none => .stuck
def sAsgG (g : Tgt) (m : M RV) : M Fl := fun E => (m E).bind fun r E1 => goNx (g r.d E1)
def sPar (i j : Nat) (m : M (List D)) : M Fl := fun E => (m E).bind fun ds E1 => match ds with
  | [a, b] => .ok .nx ((E1.set i (.sh a)).set j (.sh b))
  | _ => .stuck
def gNm (i : Nat) : Tgt := fun d E => some (E.set i (.sh d))
def gsNil : Tgts := fun ds E => match ds with
  | [] => some E
  | _ => none
def gsCons (g : Tgt) (gs : Tgts) : Tgts := fun ds E => match ds with
  | d :: r => (g d E).bind fun E1 => gs r E1
  | [] => none
def gTp (n : Nat) (gs : Tgts) : Tgt := fun d E => match d with
  | .tup ds => if ds.length = n then gs ds E else none
  | _ => none
def sAug (i : Nat) (f : D → D → Option RV) (m : M RV) : M Fl := fun E => match E[i]? with
  | some (.sh x) => (m E).bind fun r E1 => match f x r.d with
    | some (.sh d) => .ok .nx (E1.set i (.sh d))
    | some (.fr d) => .ok .nx (E1.set i (.ow d))
    | none => .stuck
  | _ => .stuck
def sRaise (x : Xc) : M Fl := fun E => .ex x E
section
variable {C : Ctx} {B : Base} {W : WX} {X : Cx} {pos : Pos} {a b : Expr} {ma mb : M RV} {st : Stmt} {rest : List Stmt} {m m2 : M Fl}
theorem ms_nil : PSs X [] (tS C B W sNx) := PSs.imp pss_nil fun D σ H ⟨F, E, S, p⟩ => p σ F H S (Same.refl F)
theorem ms_pass : PS X (.Pass pos) (tS C B W sNx) := PS.imp ps_pass fun D σ H ⟨F, E, S, p⟩ => p σ F H S (Same.refl F)
theorem ms_break : PS X (.Break pos) (tS C B W (fun E => .ok .bk E)) := PS.imp ps_break fun D σ H ⟨F, E, S, p⟩ => p σ F H S (Same.refl F)
theorem ms_continue : PS X (.Continue pos) (tS C B W (fun E => .ok .ct E)) := PS.imp ps_continue fun D σ H ⟨F, E, S, p⟩ => p σ F H S (Same.refl F)
theorem ms_cons (h1 : PS X st (tS C B W m)) (h2 : PSs X rest (tS C B W m2)) : PSs X (st :: rest) (tS C B W (sSeq m m2)) := by
  refine PSs.imp (pss_cons h1 h2) fun D σ H ⟨F, E, S, p⟩ => ?_
  refine ⟨F, E, S, p.bind.mono (Same.refl F) fun f E1 q => ?_⟩
  cases f with
  | nx => exact fun σ1 F1 H1 S1 st1 => tS_up S1 st1 (q.mono st1 fun _ _ z => z)
  | rt r => exact q
  | bk => exact q
  | ct => exact q
theorem ms_one (h1 : PS X st (tS C B W m)) : PSs X [st] (tS C B W m) := pss_one h1
theorem ms_expr (he : PE X a (tE C B W ma)) (hs : swapsWith a none pos.line X.env = pure false := by rfl) : PS X (.Expr a pos) (tS C B W (sDrop ma)) := by
  refine PS.imp (ps_expr he hs) fun D σ H ⟨F, E, S, p⟩ => ?_
  exact sE_go S p fun r E1 v F1 H1 S1 st1 rr p1 => p1 σ F1 H1 S1 st1
theorem ms_ret (he : PE X a (tE C B W ma)) : PS X (.Return (some a) pos) (tS C B W (sRet ma)) := by
  refine PS.imp (ps_ret he) fun D σ H ⟨F, E, S, p⟩ => ?_
  exact sE_go S p fun r E1 v F1 H1 S1 st1 rr p1 => p1 σ v F1 H1 S1 st1 rr
theorem ms_retN : PS X (.Return none pos) (tS C B W sRetN) := PS.imp ps_retN fun D σ H ⟨F, E, S, p⟩ => p σ .non F H S (Same.refl F) .non
theorem ms_if {c : Expr} {as bs : List Stmt} {mt : M Bool} (hc : PT X c (tT C B W mt)) (ha : PSs X as (tS C B W m)) (hb : PSs X bs (tS C B W m2)) : PS X (.If c as bs pos) (tS C B W (sIf mt m m2)) := by
  refine PS.imp (ps_if hc ha hb) fun D σ H ⟨F, E, S, p⟩ => ?_
  refine sT_go S p fun k E1 F1 H1 S1 st1 p1 => ?_
  cases k with
  | true => exact tS_up S1 st1 p1
  | false => exact tS_up S1 st1 p1
theorem setR {F H : Hp} {E : Ev} {σ : St} {r : RV} {v : V} (i : Nat) (S : Sim C B F H E σ) (rr : RepR C B F H E σ r v) : Sim C B F H (E.set i (match r with | .sh d => .sh d | .fr d => .ow d)) (σ.set i (some v)) := by
  cases r with
  | sh d => exact S.setSh i rr
  | fr d => obtain ⟨a, rfl, o, n, ap, pn⟩ := rr; exact S.setOw i o n ap pn
theorem ms_set {i : Nat} {x : Str} {pos' : Pos} (hN : X.N.Nodup) (hi : X.N[i]? = some x) (hx : Loc X.env.scope x) (he : PE X a (tE C B W ma)) (hs : swapsWith a (some (.Name x pos')) pos.line X.env = pure false := by rfl) (hf : X.fn x = true ∨ X.env.scope.names.lookup x = some .local := by first | exact .inl rfl | exact .inr rfl | assumption) :
    PS X (.Assign [.Name x pos'] a pos) (tS C B W (sAsg i ma)) := by
  refine PS.imp (ps_set hN hi hx he hs hf) fun D σ H ⟨F, E, S, p⟩ => ?_
  refine sE_go S p fun r E1 v F1 H1 S1 st1 rr p1 => ?_
  have q := setR i S1 rr
  cases r with
  | sh d => exact p1 _ F1 H1 q st1
  | fr d => exact p1 _ F1 H1 q st1
/-! ### targets -/
theorem mg_name {i : Nat} {x : Str} (hN : X.N.Nodup) (hi : X.N[i]? = some x) (hx : Loc X.env.scope x) (hf : X.fn x = true ∨ X.env.scope.names.lookup x = some .local := by first | exact .inl rfl | exact .inr rfl | assumption) : PG X (.Name x pos) (tG C B [i] (gNm i)) :=
  ⟨fun pins s σ H v u Q I r ⟨F, E, d, E', S, rd, e, p⟩ => by
    cases e
    exact (pg_name (pos := pos) hN hi hx hf).run pins s σ H v u Q I r (p _ F H (S.setSh i rd) (Same.refl F) ⟨List.length_set, fun j hj => List.getElem?_set_ne (fun z => hj (by simp [z]))⟩)⟩
theorem mgs_nil : PGs X [] (tGs C B [] gsNil) := ⟨fun pins s σ H vs us Q I r ⟨F, E, ds, E', S, rd, e, p⟩ => by
  refine pgs_nil.run pins s σ H vs us Q I r ?_
  cases rd with
  | nil => cases e; exact ⟨rfl, p σ F H S (Same.refl F) (Upto.refl _ _)⟩
  | cons _ _ => cases e⟩
theorem mgs_cons {e : Expr} {es : List Expr} {g : Tgt} {gs : Tgts} {js js' : List Nat} (h1 : PG X e (tG C B js g)) (h2 : PGs X es (tGs C B js' gs))
    (hs : (assignEach (e :: es) X.env).map (·.2) = assign e X.env :: (assignEach es X.env).map (·.2) := by rfl) : PGs X (e :: es) (tGs C B (js ++ js') (gsCons g gs)) := ⟨fun pins s σ H vs us Q I r ⟨F, E, ds, E', S, rd, e, p⟩ => by
  refine (pgs_cons h1 h2 hs).run pins s σ H vs us Q I r ?_
  cases rd with
  | nil => cases e
  | @cons v d vs ds r1 r2 =>
    have e : (g d E).bind (fun E1 => gs ds E1) = some E' := e
    obtain ⟨E1, e1, e2⟩ := Option.bind_eq_some_iff.mp e
    refine ⟨v, vs, rfl, F, E, d, E1, S, r1, e1, fun σ1 F1 H1 S1 st1 u1 => ?_⟩
    exact ⟨F1, E1, ds, E', S1, r2.mono st1, e2, fun σ2 F2 H2 S2 st2 u2 => p σ2 F2 H2 S2 (st1.trans st2) (u1.trans u2)⟩⟩
theorem mg_tup {es : List Expr} {k : Nat} {gs : Tgts} {js : List Nat} {n : Nat} (hK : X.K = C.K) (hc : X.calm = true) (h : PGs X es (tGs C B js gs))
    (hn : (assignEach es X.env).length = n := by rfl) (hst : (assignEach es X.env).findIdx? (·.1) = none := by rfl) : PG X (.Tuple es k pos) (tG C B js (gTp n gs)) :=
  ⟨fun pins s σ H v u Q I r ⟨F, E, d, E', S, rd, e, p⟩ => by
    refine (pg_tup (k := k) (pos := pos) hc h hn hst).run pins s σ H v u Q I r ?_
    cases rd with
    | @tup a vs ds hs hr =>
      have e : (if ds.length = n then gs ds E else none) = some E' := e
      split at e
      · rename_i hl
        exact ⟨a, vs, rfl, by rw [hK]; exact SqT_mono S.fh hs, by rw [hr.length]; exact hl, F, E, ds, E', S, hr, e, p⟩
      · cases e
    | _ => cases e⟩
theorem ms_asg {tg : Expr} {g : Tgt} {js : List Nat} (he : PE X a (tE C B W ma)) (hg : PG X tg (tG C B js g)) (hs : swapsWithSole [tg] a pos.line X.env = pure false := by rfl) (hw : swappedStores [tg] a X.env = pure none := by rfl)
    (h1 : (assignEach [tg] X.env).map (·.2) = [assign tg X.env] := by rfl) : PS X (.Assign [tg] a pos) (tS C B W (sAsgG g ma)) := by
  refine PS.imp (ps_asg he hg hs hw h1) fun D σ H ⟨F, E, S, p⟩ => ?_
  refine sE_go S p fun r E1 v F1 H1 S1 st1 rr p1 => ?_
  obtain ⟨F2, S2, st2, r2⟩ := S1.toSh rr
  cases hg : g r.d E1 with
  | none => rw [hg] at p1; exact p1.elim
  | some E2 =>
    rw [hg] at p1
    exact ⟨F2, E1, r.d, E2, S2, r2, hg, fun σ' F' H' S' st' _ => p1 σ' F' H' S' (st1.trans (st2.trans st'))⟩
theorem ms_par {i j : Nat} {x y : Str} {ms : M (List D)} {px py pt : Pos} {kt k2 pt2} (hc : X.calm = true) (hN : X.N.Nodup) (hi : X.N[i]? = some x) (hj : X.N[j]? = some y) (hij : i ≠ j)
    (hx : X.env.scope.names.lookup x = some .local) (hy : X.env.scope.names.lookup y = some .local) (ha : PA X [a, b] (tA C B W ms))
    (hw : swappedStores [.Tuple [.Name x px, .Name y py] kt pt] (.Tuple [a, b] k2 pt2) X.env = pure (some [x, y]))
    (hs : swapsWithSole [.Tuple [.Name x px, .Name y py] kt pt] (.Tuple [a, b] k2 pt2) pos.line X.env = pure false := by rfl) :
    PS X (.Assign [.Tuple [.Name x px, .Name y py] kt pt] (.Tuple [a, b] k2 pt2) pos) (tS C B W (sPar i j ms)) := by
  refine PS.imp (ps_par hc hN hi hj hij hx hy ha hw hs) fun D σ H ⟨F, E, S, p⟩ => ?_
  refine sA_go S p fun ds E1 vs F1 H1 S1 st1 rr p1 => ?_
  cases rr with
  | nil => exact p1.elim
  | cons r1 rr =>
    cases rr with
    | nil => exact p1.elim
    | cons r2 rr =>
      cases rr with
      | cons _ _ => exact p1.elim
      | nil => exact ⟨_, _, rfl, p1 _ F1 H1 ((S1.setSh i r1).setSh j r2) st1⟩
/-- in-place operators by values -/
def PureIp (C : Ctx) (r : TIp) (f : D → D → Option RV) : Prop := Pure2 C r f
theorem ms_aug {i : Nat} {x : Str} {op : Operator} {ti : TIp} {f : D → D → Option RV} {pos' : Pos} (hN : X.N.Nodup) (hi : X.N[i]? = some x) (hx : Loc X.env.scope x) (he : PE X a (tE C B W ma)) (ho : PIp X op ti) (pr : Pure2 C ti f) (hf : X.fn x = true ∨ X.env.scope.names.lookup x = some .local := by first | exact .inl rfl | exact .inr rfl | assumption) :
    PS X (.AugAssign (.Name x pos') op a pos) (tS C B W (sAug i f ma)) := by
  refine PS.imp (ps_aug hN hi hx he ho hf) fun D σ H ⟨F, E, S, p⟩ => ?_
  unfold sAug at p
  cases e : E[i]? with
  | none => rw [e] at p; exact p.elim
  | some s =>
    rw [e] at p
    cases s with
    | sh d =>
      obtain ⟨v, h1, h2⟩ := S.sl i _ e
      refine ⟨v, h1, ?_⟩
      refine sE_go S p fun r E1 w F1 H1 S1 st1 rr p1 => ?_
      obtain ⟨F2, S2, st2, r2⟩ := S1.toSh rr
      cases hf : f d r.d with
      | none => rw [hf] at p1; exact p1.elim
      | some R =>
        rw [hf] at p1
        refine pr F2 H1 v w d r.d R _ S2.fh (h2.mono (st1.trans st2)) r2 hf fun z F' H' g n => ?_
        obtain ⟨S3, rr3⟩ := S2.newR g n
        have q := setR i S3 rr3
        cases R with
        | sh d => exact p1 _ F' H' q (st1.trans (st2.trans g.fs))
        | fr d => exact p1 _ F' H' q (st1.trans (st2.trans g.fs))
    | _ => exact p.elim
end

/-! ### what is walked -/
/-- J yields what ds tells, and nothing else changes -/
def Gives (C : Ctx) (J : It) (ds : List D) (F : Hp) : Prop := ∀ F' H', Same F F' → Same F' H' →
  (∀ i d, ds[i]? = some d → J.go i H' ∧ ∀ x H'', J.yld i H' x H'' → ∃ F'', Grow NoB F' H' F'' H'' ∧ Rep C F'' x d) ∧ J.stop ds.length H'
def tI (C : Ctx) (B : Base) (W : WX) (m : M (List D)) : TI := fun σ H R => ∃ F E, Sim C B F H E σ ∧ Post C B W F σ (fun ds E' => ∀ J F' H', Sim C B F' H' E' σ → Same F F' → Gives C J ds F' → R J H') (m E)
theorem Gives.mono {C : Ctx} {J : It} {ds : List D} {F F' : Hp} (g : Gives C J ds F) (st : Same F F') : Gives C J ds F' := fun F1 H1 s1 s2 => g F1 H1 (st.trans s1) s2
/-- K is about the walk of ds from turn i on -/
def forL (g : Tgt) (body : M Fl) : List D → M Fl
  | [], E => .ok .nx E
  | d :: ds, E => match g d E with
    | none => .stuck
    | some E1 => (body E1).bind fun f E2 => match f with
      | .nx => forL g body ds E2
      | .ct => forL g body ds E2
      | .bk => .ok .nx E2
      | .rt r => .ok (.rt r) E2
def sFor (mi : M (List D)) (g : Tgt) (body : M Fl) : M Fl := fun E => (mi E).bind fun ds E1 => forL g body ds E1
def whL (c : M Bool) (body : M Fl) : Nat → M Fl
  | 0, _ => .stuck
  | n + 1, E => (c E).bind fun b E1 => if b = true then (body E1).bind fun f E2 => match f with
      | .nx => whL c body n E2
      | .ct => whL c body n E2
      | .bk => .ok .nx E2
      | .rt r => .ok (.rt r) E2
    else .ok .nx E1
section
variable {C : Ctx} {B : Base} {W : WX} {X : Cx} {pos : Pos}
theorem ms_for {tg iter : Expr} {body : List Stmt} {mi : M (List D)} {g : Tgt} {js : List Nat} {mb : M Fl} (hp : PassesOwn (model X.prog X.w) X.A X.env X.xe) (hc : X.calm = true) (hi : PI X tg iter (tI C B W mi)) (hg : PG X tg (tG C B js g)) (hb : PSs X body (tS C B W mb))
    (hs : ∀ x, foldedSetIterable iter X.env x = pure x := by intro _; rfl) : PS X (.For tg iter body [] pos) (tS C B W (sFor mi g mb)) := by
  refine PS.imp (ps_for hp hc hi hg hb hs) fun D σ H ⟨F, E, S, p⟩ => ?_
  refine ⟨F, E, S, p.bind.e fun ds E1 q J F1 H1 S1 st1 gv => ?_⟩
  refine ⟨fun i m σ H => i + m = ds.length ∧ ∃ F2 E2, Sim C B F2 H E2 σ ∧ Same F1 F2 ∧ PostS C B W F2 (kS C B F D) (forL g mb (ds.drop i) E2), ⟨ds.length, Nat.zero_add _, F1, E1, S1, Same.refl F1, q.mono st1 fun _ _ z => z⟩, ?_⟩
  rintro i m σ2 H2 ⟨hm, F2, E2, S2, st2, p2⟩
  obtain ⟨g1, g2⟩ := gv F2 H2 st2 S2.fh
  by_cases hlt : i < ds.length
  · have hd : ds.drop i = ds[i] :: ds.drop (i + 1) := List.drop_eq_getElem_cons hlt
    rw [hd] at p2
    obtain ⟨y1, y2⟩ := g1 i ds[i] (List.getElem?_eq_getElem hlt)
    refine .inr ⟨y1, fun σ' H' => ∃ F3 E3, Sim C B F3 H' E3 σ' ∧ Same F1 F3 ∧ PostS C B W F3 (kS C B F D) (forL g mb (ds.drop (i + 1)) E3), fun σ' H' ⟨F3, E3, S3, st3, p3⟩ => ⟨m - 1, by omega, by omega, F3, E3, S3, st3, p3⟩, fun x H' y => ?_⟩
    obtain ⟨F3, gr, r3⟩ := y2 x H' y
    have S3 := S2.grow gr
    cases hg : g ds[i] E2 with
    | none => simp only [forL, hg] at p2; exact p2.elim
    | some E3 =>
      simp only [forL, hg] at p2
      refine ⟨F3, E2, ds[i], E3, S3, r3, hg, fun σ4 F4 H4 S4 st4 _ => ?_⟩
      have st24 : Same F2 F4 := gr.fs.trans st4
      refine ⟨F4, E3, S4, (p2.bind.mono st24 fun f E5 q5 => ?_)⟩
      cases f with
      | nx => exact fun σ5 F5 H5 S5 st5 => ⟨F5, E5, S5, st2.trans (st24.trans st5), q5.mono (st24.trans st5) fun _ _ z => z⟩
      | ct => exact fun σ5 F5 H5 S5 st5 => ⟨F5, E5, S5, st2.trans (st24.trans st5), q5.mono (st24.trans st5) fun _ _ z => z⟩
      | bk => exact fun σ5 F5 H5 S5 st5 => q5 σ5 F5 H5 S5 (st1.trans (st2.trans (st24.trans st5)))
      | rt r => exact fun σ5 v F5 H5 S5 st5 rr => q5 σ5 v F5 H5 S5 (st1.trans (st2.trans (st24.trans st5))) rr
  · have e : i = ds.length := by omega
    subst e
    rw [List.drop_length] at p2
    exact .inl ⟨g2, p2 σ2 F2 H2 S2 (st1.trans st2)⟩
theorem ms_while {c : Expr} {body : List Stmt} {mc : M Bool} {mb : M Fl} (n : Nat) (hp : PassesOwn (model X.prog X.w) X.A X.env X.xe) (hc : PT X c (tT C B W mc)) (hb : PSs X body (tS C B W mb)) : PS X (.While c body [] pos) (tS C B W (whL mc mb n)) := by
  refine PS.imp (ps_while hp hc hb) fun D σ H ⟨F, E, S, p⟩ => ?_
  refine ⟨fun m σ H => ∃ F2 E2, Sim C B F2 H E2 σ ∧ Same F F2 ∧ PostS C B W F2 (kS C B F D) (whL mc mb m E2), ⟨n, F, E, S, Same.refl F, p⟩, ?_⟩
  rintro m σ2 H2 ⟨F2, E2, S2, st2, p2⟩
  cases m with
  | zero => exact p2.elim
  | succ m =>
    refine sT_go S2 p2 fun k E3 F3 H3 S3 st3 p3 => ?_
    cases k with
    | false => exact p3 σ2 F3 H3 S3 (st2.trans st3)
    | true =>
      refine ⟨fun σ' H' => ∃ F4 E4, Sim C B F4 H' E4 σ' ∧ Same F F4 ∧ PostS C B W F4 (kS C B F D) (whL mc mb m E4), fun σ' H' ⟨F4, E4, S4, st4, p4⟩ => ⟨m, Nat.lt_succ_self m, F4, E4, S4, st4, p4⟩, F3, E3, S3, ?_⟩
      have p3 : PostS C B W F3 (kS C B F D) ((mb E3).bind _) := p3
      refine p3.bind.mono (Same.refl F3) fun f E5 q5 => ?_
      cases f with
      | nx => exact fun σ5 F5 H5 S5 st5 => ⟨F5, E5, S5, st2.trans (st3.trans st5), q5.mono st5 fun _ _ z => z⟩
      | ct => exact fun σ5 F5 H5 S5 st5 => ⟨F5, E5, S5, st2.trans (st3.trans st5), q5.mono st5 fun _ _ z => z⟩
      | bk => exact fun σ5 F5 H5 S5 st5 => q5 σ5 F5 H5 S5 (st2.trans (st3.trans st5))
      | rt r => exact fun σ5 v F5 H5 S5 st5 rr => q5 σ5 v F5 H5 S5 (st2.trans (st3.trans st5)) rr
end

/-! ### the walks -/
def iV (f : D → Option (List D)) (m : M RV) : M (List D) := fun E => (m E).bind fun r E1 => match f r.d with
  | some ds => .ok ds E1
  | none => .stuck
def itL (d : D) : Option (List D) := match d with
  | .lst ds => some ds
  | _ => none
def itT (d : D) : Option (List D) := match d with
  | .tup ds => some ds
  | _ => none
def rgD (lo : Int) (n : Nat) : List D := (List.range n).map fun (k : Nat) => D.int (lo + k)
def rgOk (i : Int) : Bool := decide (-(2 ^ 62) ≤ i) && decide (i < 2 ^ 62)
def rg1 (ds : List D) : Option (List D) := match ds with
  | [.int j] => if rgOk j = true then some (rgD 0 j.toNat) else none
  | _ => none
def rg2 (ds : List D) : Option (List D) := match ds with
  | [.int i, .int j] => if rgOk i = true ∧ rgOk j = true then some (rgD i (j - i).toNat) else none
  | _ => none
def iN (f : List D → Option (List D)) (m : M (List D)) : M (List D) := fun E => (m E).bind fun ds E1 => match f ds with
  | some xs => .ok xs E1
  | none => .stuck
section
variable {C : Ctx} {B : Base} {W : WX} {X : Cx} {pos p : Pos} {tg a b : Expr} {ma : M RV} {mr : M (List D)}
theorem tI_up {m : M (List D)} {F F1 H1 : Hp} {E1 : Ev} {σ : St} {R : It → Hp → Prop} {ds : List D} (S1 : Sim C B F1 H1 E1 σ) (st1 : Same F F1) (p : ∀ J F' H', Sim C B F' H' E1 σ → Same F F' → Gives C J ds F' → R J H') : ∀ J, Gives C J ds F1 → R J H1 := fun J g => p J F1 H1 S1 st1 g
theorem gives_list {a : Addr} {vs : List V} {ds : List D} {F : Hp} (h : SqL C.K F a vs) (r : RepL C F vs ds) : Gives C (Itl C.K a) ds F := fun F' H' s1 s2 => by
  have hH : SqL C.K H' a vs := s2.seq (s1.seq h)
  refine ⟨fun i d e => ?_, ⟨vs, hH, by rw [r.length]; exact Nat.le_refl _⟩⟩
  obtain ⟨v, e1, r1⟩ := r.get e
  refine ⟨⟨vs, v, hH, e1⟩, fun x H'' y => ?_⟩
  obtain ⟨rfl, y2⟩ := y
  have e2 := y2 vs hH
  rw [e1] at e2; cases e2
  exact ⟨F', Grow.refl s2, r1.mono s1⟩
theorem gives_tup {a : Addr} {vs : List V} {ds : List D} {F : Hp} (h : SqT C.K F a vs) (r : RepL C F vs ds) : Gives C (Itt C.K a) ds F := fun F' H' s1 s2 => by
  have hH : SqT C.K H' a vs := SqT_mono s2 (SqT_mono s1 h)
  refine ⟨fun i d e => ?_, ⟨vs, hH, by rw [r.length]; exact Nat.le_refl _⟩⟩
  obtain ⟨v, e1, r1⟩ := r.get e
  refine ⟨⟨vs, v, hH, e1⟩, fun x H'' y => ?_⟩
  obtain ⟨rfl, y2⟩ := y
  have e2 := y2 vs hH
  rw [e1] at e2; cases e2
  exact ⟨F', Grow.refl s2, r1.mono s1⟩
theorem gives_range (lo : Int) (n : Nat) (F : Hp) : Gives C (Itr lo n) (rgD lo n) F := fun F' H' s1 s2 => by
  have hl : (rgD lo n).length = n := by unfold rgD; rw [List.length_map, List.length_range]
  refine ⟨fun i d e => ?_, by rw [hl]; exact Nat.le_refl _⟩
  have hi : i < n := by
    have := (List.getElem?_eq_some_iff.mp e).1
    omega
  have ed : d = .int (lo + i) := by
    unfold rgD at e
    rw [List.getElem?_map, List.getElem?_range hi] at e
    exact (Option.some.inj e).symm
  subst ed
  refine ⟨hi, fun x H'' y => ?_⟩
  obtain ⟨rfl, rfl⟩ := y
  exact ⟨F', Grow.refl s2, .int _⟩
theorem mi_list (hK : X.K = C.K) (ha : PE X a (tE C B W ma)) : PI X tg a (tI C B W (iV itL ma)) := by
  refine ⟨fun pins s σ H R I ⟨F, E, S, p⟩ => (pi_list ha).run pins s σ H R I ?_⟩
  refine tE_go S p fun r E1 v F1 H1 S1 st1 r1 p1 => ?_
  cases hd : itL r.d with
  | none => rw [hd] at p1; exact p1.elim
  | some ds =>
    rw [hd] at p1
    cases hr : r.d with
    | lst xs =>
      rw [hr] at hd r1; cases hd
      cases r1 with
      | @lst a vs ds hs hr =>
        rw [hK]
        exact ⟨a, rfl, ⟨vs, SqL.of (S1.fh _ _ hs)⟩, p1 _ F1 H1 S1 st1 (gives_list (SqL.of hs) hr)⟩
    | _ => rw [hr] at hd; cases hd
theorem mi_tup (hK : X.K = C.K) (ha : PE X a (tE C B W ma)) : PI X tg a (tI C B W (iV itT ma)) := by
  refine ⟨fun pins s σ H R I ⟨F, E, S, p⟩ => (pi_tup ha).run pins s σ H R I ?_⟩
  refine tE_go S p fun r E1 v F1 H1 S1 st1 r1 p1 => ?_
  cases hd : itT r.d with
  | none => rw [hd] at p1; exact p1.elim
  | some ds =>
    rw [hd] at p1
    cases hr : r.d with
    | tup xs =>
      rw [hr] at hd r1; cases hd
      cases r1 with
      | @tup a vs ds hs hr =>
        rw [hK]
        exact ⟨a, rfl, ⟨vs, SqT_mono S1.fh hs⟩, p1 _ F1 H1 S1 st1 (gives_tup hs hr)⟩
    | _ => rw [hr] at hd; cases hd
theorem rgOk_iff {i : Int} (h : rgOk i = true) : -(2 ^ 62) ≤ i ∧ i < 2 ^ 62 := by
  unfold rgOk at h
  simpa using h
theorem PI.imp {X : Cx} {tg e : Expr} {t t' : TI} (h : PI X tg e t) (i : ∀ σ H Q, t' σ H Q → t σ H Q) : PI X tg e t' := ⟨fun p s σ H Q I w => h.run p s σ H Q I (i σ H Q w)⟩
theorem rg1_inv {ds xs : List D} (h : rg1 ds = some xs) : ∃ j, ds = [.int j] ∧ rgOk j = true ∧ xs = rgD 0 j.toNat := by
  unfold rg1 at h
  split at h
  · rename_i j
    split at h
    · rename_i ok; cases h; exact ⟨j, rfl, ok, rfl⟩
    · cases h
  · cases h
theorem rg2_inv {ds xs : List D} (h : rg2 ds = some xs) : ∃ i j, ds = [.int i, .int j] ∧ rgOk i = true ∧ rgOk j = true ∧ xs = rgD i (j - i).toNat := by
  unfold rg2 at h
  split at h
  · rename_i i j
    split at h
    · rename_i ok; cases h; exact ⟨i, j, rfl, ok.1, ok.2, rfl⟩
    · cases h
  · cases h
theorem mi_range1 (hg : Gl X "range") (hm : X.mg "range" = none) (ha : PA X [a] (tA C B W mr)) (hs : starEach [a] X.env = [(false, eval a X.env)] := by rfl) : PI X tg (.Call (.Name "range" p) [a] [] pos) (tI C B W (iN rg1 mr)) := by
  refine PI.imp (pi_range1 hg hm ha hs) fun σ H R ⟨F, E, S, q⟩ => ?_
  refine tA_go S q fun ds E1 vs F1 H1 S1 st1 r1 p1 => ?_
  cases hf : rg1 ds with
  | none => rw [hf] at p1; exact p1.elim
  | some xs =>
    rw [hf] at p1
    obtain ⟨j, rfl, ok, rfl⟩ := rg1_inv hf
    obtain ⟨b1, b2⟩ := rgOk_iff ok
    cases r1 with
    | cons r rr =>
      cases rr
      cases r
      exact ⟨j, rfl, b1, b2, p1 _ F1 H1 S1 st1 (gives_range 0 j.toNat F1)⟩
theorem mi_range2 (hg : Gl X "range") (hm : X.mg "range" = none) (ha : PA X [a, b] (tA C B W mr)) (hs : starEach [a, b] X.env = [(false, eval a X.env), (false, eval b X.env)] := by rfl) (hs2 : starEach [b] X.env = [(false, eval b X.env)] := by rfl) :
    PI X tg (.Call (.Name "range" p) [a, b] [] pos) (tI C B W (iN rg2 mr)) := by
  refine PI.imp (pi_range2 hg hm ha hs hs2) fun σ H R ⟨F, E, S, q⟩ => ?_
  refine tA_go S q fun ds E1 vs F1 H1 S1 st1 r1 p1 => ?_
  cases hf : rg2 ds with
  | none => rw [hf] at p1; exact p1.elim
  | some xs =>
    rw [hf] at p1
    obtain ⟨i, j, rfl, ok, ok2, rfl⟩ := rg2_inv hf
    obtain ⟨b1, b2⟩ := rgOk_iff ok
    obtain ⟨b3, b4⟩ := rgOk_iff ok2
    cases r1 with
    | cons r rr =>
      cases rr with
      | cons r2 rr =>
        cases rr
        cases r
        cases r2
        exact ⟨i, j, rfl, ⟨b1, b2, b3, b4⟩, p1 _ F1 H1 S1 st1 (gives_range i _ F1)⟩
/-- a list or a tuple -/
def itS (d : D) : Option (List D) := match d with
  | .lst ds => some ds
  | .tup ds => some ds
  | _ => none
theorem pi_seq {l : Expr} {tl : TE} (hl : PE X l tl) : PI X tg l (fun σ H R => tl σ H fun x H1 => ∃ a, x = .ref a ∧ (((∃ xs, SqL X.K H1 a xs) ∧ R (Itl X.K a) H1) ∨ ((∃ xs, SqT X.K H1 a xs) ∧ R (Itt X.K a) H1))) := by
  refine ⟨fun pins s σ H R I h => ?_⟩
  refine thn (hl.run pins s σ H _ I h) fun v s1 ⟨x, H1, I1, r1, q1⟩ => ?_
  obtain ⟨a, e, ⟨⟨xs, hq⟩, q⟩ | ⟨⟨xs, hq⟩, q⟩⟩ := q1
  · subst e
    cases r1
    obtain ⟨its, rv, p, hz⟩ := I1.list hq
    refine wpAny_pyIter_list p.isList ?_
    refine ⟨s1.heap.objs.size, [s1.heap.objs.size], _, _, H1, rfl, I1.kept (t' := s1.toks) fun b o e => Heap.get?_push_of_some _ e, turn_list a _, ⟨_, Heap.get?_push_size _ rfl, rfl, rfl⟩, fun b hb => ?_, q⟩
    have e : b = s1.heap.objs.size := by simpa using hb
    subst e
    exact I1.fpOk (Nat.le_refl _) (I1.hok.fresh (Nat.le_refl _))
  · subst e
    cases r1
    obtain ⟨its, rv, p, hz⟩ := I1.tuple hq
    refine wpAny_pyIter_tuple (show s1.heap.IsTuple a its.toArray from p) ?_
    refine ⟨s1.heap.objs.size, [s1.heap.objs.size], _, _, H1, rfl, I1.kept (t' := s1.toks) fun b o e => Heap.get?_push_of_some _ e, turn_tuple a _, ⟨_, Heap.get?_push_size _ rfl, rfl, rfl⟩, fun b hb => ?_, q⟩
    have e : b = s1.heap.objs.size := by simpa using hb
    subst e
    exact I1.fpOk (Nat.le_refl _) (I1.hok.fresh (Nat.le_refl _))
theorem mi_seq (hK : X.K = C.K) (ha : PE X a (tE C B W ma)) : PI X tg a (tI C B W (iV itS ma)) := by
  refine PI.imp (pi_seq ha) fun σ H R ⟨F, E, S, p⟩ => ?_
  refine tE_go S p fun r E1 v F1 H1 S1 st1 r1 p1 => ?_
  cases hd : itS r.d with
  | none => rw [hd] at p1; exact p1.elim
  | some ds =>
    rw [hd] at p1
    cases hr : r.d with
    | tup xs =>
      rw [hr] at hd r1; cases hd
      cases r1 with
      | @tup a vs ds hs hr =>
        rw [hK]
        exact ⟨a, rfl, .inr ⟨⟨vs, SqT_mono S1.fh hs⟩, p1 _ F1 H1 S1 st1 (gives_tup hs hr)⟩⟩
    | lst xs =>
      rw [hr] at hd r1; cases hd
      cases r1 with
      | @lst a vs ds hs hr =>
        rw [hK]
        exact ⟨a, rfl, .inl ⟨⟨vs, SqL.of (S1.fh _ _ hs)⟩, p1 _ F1 H1 S1 st1 (gives_list (SqL.of hs) hr)⟩⟩
    | _ => rw [hr] at hd; cases hd
end
end MM

/-! MM: defs and their calls, comprehensions, what is owned changed. -/
namespace MM
open PySem PySem.Spec PyProof.Rows L2

/-! ### a def as a function of data -/
inductive FO where
  | ok (r : RV) | ex (x : Xc) | stuck
/-- .. whose first argument is an owned thing that it changes -/
inductive FB where
  | ok (r : RV) (d : D) | ex (x : Xc) (d : D) | stuck
def fspec (C : Ctx) (n : Nat) (f : List D → FO) : Sp := fun vs H Q E => ∃ F ds, Same F H ∧ RepL C F vs ds ∧ ds.length = n ∧ match f ds with
  | .ok r => ∀ v F' H', Grow NoB F H F' H' → NewR C F' H H' r v → Q v H'
  | .ex x => ∀ cls d F' H', Grow NoB F H F' H' → RepX C F' x cls d → E cls d H'
  | .stuck => False
def fspecB (C : Ctx) (n : Nat) (f : D → List D → FB) : Sp := fun vs H Q E => ∃ F a d ws ds, Same F H ∧ vs = .ref a :: ws ∧ Own C F H a d ∧ RepL C F ws ds ∧ ds.length + 1 = n ∧ match f d ds with
  | .ok r d' => ∀ v F' H', Grow (fun c => c = a) F H F' H' → Own C F' H' a d' → NewR C F' H H' r v → Q v H'
  | .ex x d' => ∀ cls e F' H', Grow (fun c => c = a) F H F' H' → Own C F' H' a d' → RepX C F' x cls e → E cls e H'
  | .stuck => False
/-- the slots at a def's entry -/
def ev0 (N : Nat) (ds : List D) : Ev := ds.map .sh ++ List.replicate (N - ds.length) .un
def mFn (N : Nat) (m : M Fl) (ds : List D) : FO := match m (ev0 N ds) with
  | .ok .nx _ => .ok (.sh .non)
  | .ok (.rt r) _ => .ok r
  | .ex x _ => .ex x
  | _ => .stuck
def ev0B (N : Nat) (d : D) (ds : List D) : Ev := .bo d :: (ds.map .sh ++ List.replicate (N - 1 - ds.length) .un)
def boAt (E : Ev) : Option D := match E with
  | .bo d :: _ => some d
  | _ => none
def mFnB (N : Nat) (m : M Fl) (d : D) (ds : List D) : FB := match m (ev0B N d ds) with
  | .ok .nx E => (match boAt E with | some d' => .ok (.sh .non) d' | none => .stuck)
  | .ok (.rt r) E => (match boAt E with | some d' => .ok r d' | none => .stuck)
  | .ex x E => (match boAt E with | some d' => .ex x d' | none => .stuck)
  | _ => .stuck
section
variable {C : Ctx}
theorem start_get {N : List Str} {vs : List V} {i : Nat} {v : V} (h : vs[i]? = some v) : (start N vs)[i]? = some (some v) := by
  unfold L2.start
  have hi : i < vs.length := (List.getElem?_eq_some_iff.mp h).1
  rw [List.getElem?_append_left (by simpa using hi), List.getElem?_map, h]
  rfl
theorem start_len {N : List Str} {vs : List V} (h : vs.length ≤ N.length) : (start N vs).length = N.length := by
  unfold L2.start
  rw [List.length_append, List.length_map, List.length_replicate]
  omega
theorem sim0 {F H : Hp} {N : List Str} {vs : List V} {ds : List D} (st : Same F H) (r : RepL C F vs ds) (hl : ds.length ≤ N.length) : Sim C ⟨F, H, NoB, fun _ => none⟩ F H (ev0 N.length ds) (start N vs) := by
  have el := r.length
  have get : ∀ (i : Nat) (s : Sl), (ev0 N.length ds)[i]? = some s → (∃ d, ds[i]? = some d ∧ s = .sh d) ∨ s = .un := fun i s e => by
    unfold ev0 at e
    by_cases hi : i < ds.length
    · rw [List.getElem?_append_left (by simpa using hi), List.getElem?_map] at e
      cases q : ds[i]? with
      | none => rw [q] at e; cases e
      | some d => rw [q] at e; cases e; exact .inl ⟨d, rfl, rfl⟩
    · rw [List.getElem?_append_right (by simpa using hi), List.getElem?_replicate] at e
      split at e
      · cases e; exact .inr rfl
      · cases e
  refine ⟨Grow.refl st, ?_, fun i s e => ?_, fun i j s t a e1 e2 o1 _ => ?_, fun _ _ e => by cases e⟩
  · rw [start_len (by omega)]
    unfold ev0
    rw [List.length_append, List.length_map, List.length_replicate]
    omega
  · rcases get i s e with ⟨d, e1, rfl⟩ | rfl
    · obtain ⟨v, h1, h2⟩ := r.get e1
      exact ⟨v, start_get h1, h2⟩
    · trivial
  · rcases get i s e1 with ⟨d, _, rfl⟩ | rfl <;> cases o1
theorem simB {F H : Hp} {N : List Str} {vs : List V} {ds : List D} {a : Addr} {d : D} (st : Same F H) (o : Own C F H a d) (r : RepL C F vs ds) (hl : ds.length + 1 ≤ N.length) :
    Sim C ⟨F, H, fun c => c = a, fun _ => none⟩ F H (ev0B N.length d ds) (start N (.ref a :: vs)) := by
  have el := r.length
  have get : ∀ (i : Nat) (s : Sl), (ev0B N.length d ds)[i]? = some s → (i = 0 ∧ s = .bo d) ∨ (∃ j d, i = j + 1 ∧ ds[j]? = some d ∧ s = .sh d) ∨ s = .un := fun i s e => by
    unfold ev0B at e
    cases i with
    | zero => cases e; exact .inl ⟨rfl, rfl⟩
    | succ i =>
      rw [List.getElem?_cons_succ] at e
      by_cases hi : i < ds.length
      · rw [List.getElem?_append_left (by simpa using hi), List.getElem?_map] at e
        cases q : ds[i]? with
        | none => rw [q] at e; cases e
        | some d => rw [q] at e; cases e; exact .inr (.inl ⟨i, d, rfl, q, rfl⟩)
      · rw [List.getElem?_append_right (by simpa using hi), List.getElem?_replicate] at e
        split at e
        · cases e; exact .inr (.inr rfl)
        · cases e
  refine ⟨Grow.refl st, ?_, fun i s e => ?_, fun i j s t b e1 e2 o1 o2 => ?_, fun _ _ e => by cases e⟩
  · rw [start_len (by simp only [List.length_cons]; omega)]
    unfold ev0B
    rw [List.length_cons, List.length_append, List.length_map, List.length_replicate]
    omega
  · rcases get i s e with ⟨rfl, rfl⟩ | ⟨j, d', rfl, e1, rfl⟩ | rfl
    · exact ⟨a, start_get rfl, o, rfl⟩
    · obtain ⟨v, h1, h2⟩ := r.get e1
      exact ⟨v, start_get (by rw [List.getElem?_cons_succ]; exact h1), h2⟩
    · trivial
  · intro _ _
    rcases get i s e1 with ⟨rfl, rfl⟩ | ⟨_, _, _, _, rfl⟩ | rfl
    · rcases get j t e2 with ⟨rfl, rfl⟩ | ⟨_, _, _, _, rfl⟩ | rfl
      · rfl
      · cases o2
      · cases o2
    · cases o1
    · cases o1
theorem NewR.of {B : Base} {F H : Hp} {E : Ev} {σ : St} {r : RV} {v : V} (rr : RepR C B F H E σ r v) : NewR C F B.H0 H r v := by
  cases r with
  | sh d => exact rr
  | fr d => obtain ⟨a, e, o, n, _⟩ := rr; exact ⟨a, e, n, o⟩
variable {P : Program} {w : World} {K : PySem.W.Frag} {mg : Str → Option Value} {base : Heap}
/-- what a def's own wish about exceptions is -/
abbrev WFn (E : XK) : WX := fun cls d _ H => E cls d H
/-- THE RULE: a def keeps the promise of its function -/
theorem fn_ok {x qual : Str} {st : Stmt} {dvs : List V} {kws : List (Str × V)} {f : Addr} {fd : FuncData} {N ps : List Str} {k : Nat} {m : M Fl} (F : FunD K x qual (defArgs st) (defBody st) (defScope st) dvs kws f fd) (S : FnScope N ps (defScope st))
    (body : ∀ (cdv : Value) (A : Around) (outer : List Env) (s : Shared) (H : Hp) (E : XK) (B : Base), Room k (A.deeper (envOfC qual (defScope st) s.heap.objs.size f cdv)) →
      PSs (cxOf (L2.CX P w) P w K mg base N qual (defScope st) f cdv A outer s H E) (defBody st) (tS C B (WFn E) m)) : FnOk P w K mg base (L2.CX P w) (k + 1) f fd ps (fspec C ps.length (mFn N.length m)) := by
  have hpl : ps.length ≤ N.length := by have := congrArg List.length S.pre; rw [List.length_take] at this; omega
  refine F.ok S (fun vs H Q E h => ?_) (fun cdv A outer s H vs Q E hr h => ?_)
  · obtain ⟨F0, ds, _, r, hl, _⟩ := h
    rw [r.length, hl]
  · obtain ⟨F0, ds, st0, r, hl, p⟩ := h
    refine ⟨_, body cdv A outer s H E ⟨F0, H, NoB, fun _ => none⟩ hr, F0, ev0 N.length ds, sim0 st0 r (by omega), ?_⟩
    unfold mFn at p
    cases hm : m (ev0 N.length ds) with
    | stuck => rw [hm] at p; exact p
    | ex x E1 =>
      rw [hm] at p
      exact fun σ cls d F' H' S' st' rx => p cls d F' H' S'.g rx
    | ok fl E1 =>
      rw [hm] at p
      cases fl with
      | nx => exact fun σ F' H' S' st' => p .non F' H' S'.g .non
      | rt r => exact fun σ v F' H' S' st' rr => p v F' H' S'.g (NewR.of rr)
      | bk => exact p.elim
      | ct => exact p.elim
theorem boAt_inv {E : Ev} {d : D} (h : boAt E = some d) : E[0]? = some (.bo d) := by
  cases E with
  | nil => cases h
  | cons s r =>
    cases s with
    | bo d' => cases h; rfl
    | _ => cases h
theorem bo_end {F H F' H' : Hp} {a : Addr} {E : Ev} {σ : St} {d : D} (S : Sim C ⟨F, H, fun c => c = a, fun _ => none⟩ F' H' E σ) (h : boAt E = some d) : Own C F' H' a d := by
  obtain ⟨b, e, o, hb⟩ := S.sl 0 _ (boAt_inv h)
  cases hb
  exact o
theorem fn_okB {x qual : Str} {st : Stmt} {dvs : List V} {kws : List (Str × V)} {f : Addr} {fd : FuncData} {N ps : List Str} {k : Nat} {m : M Fl} (F : FunD K x qual (defArgs st) (defBody st) (defScope st) dvs kws f fd) (S : FnScope N ps (defScope st))
    (body : ∀ (cdv : Value) (A : Around) (outer : List Env) (s : Shared) (H : Hp) (E : XK) (B : Base), Room k (A.deeper (envOfC qual (defScope st) s.heap.objs.size f cdv)) →
      PSs (cxOf (L2.CX P w) P w K mg base N qual (defScope st) f cdv A outer s H E) (defBody st) (tS C B (WFn E) m)) : FnOk P w K mg base (L2.CX P w) (k + 1) f fd ps (fspecB C ps.length (mFnB N.length m)) := by
  have hpl : ps.length ≤ N.length := by have := congrArg List.length S.pre; rw [List.length_take] at this; omega
  refine F.ok S (fun vs H Q E h => ?_) (fun cdv A outer s H vs Q E hr h => ?_)
  · obtain ⟨F0, a, d, ws, ds, _, rfl, _, r, hl, _⟩ := h
    rw [List.length_cons, r.length, hl]
  · obtain ⟨F0, a, d, ws, ds, st0, rfl, o, r, hl, p⟩ := h
    refine ⟨_, body cdv A outer s H E ⟨F0, H, fun c => c = a, fun _ => none⟩ hr, F0, ev0B N.length d ds, simB st0 o r (by omega), ?_⟩
    unfold mFnB at p
    cases hm : m (ev0B N.length d ds) with
    | stuck => rw [hm] at p; exact p
    | ex x E1 =>
      rw [hm] at p
      dsimp only at p
      cases hb : boAt E1 with
      | none => rw [hb] at p; exact p.elim
      | some d' =>
        rw [hb] at p
        exact fun σ cls d F' H' S' st' rx => p cls d F' H' S'.g (bo_end S' hb) rx
    | ok fl E1 =>
      rw [hm] at p
      cases fl with
      | nx =>
        dsimp only at p
        cases hb : boAt E1 with
        | none => rw [hb] at p; exact p.elim
        | some d' =>
          rw [hb] at p
          exact fun σ F' H' S' st' => p .non F' H' S'.g (bo_end S' hb) .non
      | rt r =>
        dsimp only at p
        cases hb : boAt E1 with
        | none => rw [hb] at p; exact p.elim
        | some d' =>
          rw [hb] at p
          exact fun σ v F' H' S' st' rr => p v F' H' S'.g (bo_end S' hb) (NewR.of rr)
      | bk => exact p.elim
      | ct => exact p.elim
end

/-! ### calls -/
def goF (o : FO) (E : Ev) : Out RV := match o with
  | .ok r => .ok r E
  | .ex x => .ex x E
  | .stuck => .stuck
def eCall (n : Nat) (f : List D → FO) (m : M (List D)) : M RV := fun E => (m E).bind fun ds E1 => if ds.length = n then goF (f ds) E1 else .stuck
/-- of several defs, by what the i-th slot holds -/
def eCallL (n : Nat) (i : Nat) (T : Nat → Option (List D → FO)) (m : M (List D)) : M RV := fun E => match E[i]? with
  | some (.sh (.gl c)) => (match T c with
    | some g => (m E).bind fun ds E1 => if ds.length = n then goF (g ds) E1 else .stuck
    | none => .stuck)
  | _ => .stuck
/-- the i-th slot owns what it holds -/
def ownAt (E : Ev) (i : Nat) : Bool := match E[i]? with
  | some s => s.own
  | none => false
def goB (i : Nat) (k : D → Sl) (o : FB) (E : Ev) : Out RV := match o with
  | .ok r d => .ok r (E.set i (k d))
  | .ex x d => .ex x (E.set i (k d))
  | .stuck => .stuck
/-- f(x, ..), x a slot that owns what f changes -/
def eCallB (n : Nat) (i : Nat) (f : D → List D → FB) (m : M (List D)) : M RV := fun E => if ownAt E i = true then (m E).bind fun ds E1 => if ds.length + 1 = n then (match E1[i]? with
  | some (.ow d) => goB i .ow (f d ds) E1
  | some (.bo d) => goB i .bo (f d ds) E1
  | _ => .stuck) else .stuck else .stuck
section
variable {C : Ctx} {B : Base} {W : WX} {X : Cx} {pos p apos : Pos} {e : Expr} {es : List Expr} {mr : M (List D)} {x : Str} {k : Nat} {f : Addr} {fd : FuncData} {ps : List Str} {n : Nat}
theorem fspec_go {F F1 H1 : Hp} {E1 : Ev} {σ : St} {Q : VK} {g : List D → FO} {vs : List V} {ds : List D} (S1 : Sim C B F1 H1 E1 σ) (st : Same F F1) (r1 : RepL C F1 vs ds)
    (p1 : Post C B W F1 σ (kE C B F σ Q) (if ds.length = n then goF (g ds) E1 else .stuck)) : fspec C n g vs H1 Q (WE W σ) := by
  split at p1
  · rename_i hl
    refine ⟨F1, ds, S1.fh, r1, hl, ?_⟩
    cases hg : g ds with
    | stuck => rw [hg] at p1; exact p1
    | ex x => rw [hg] at p1; exact fun cls d F' H' gr rx => p1 cls d F' H' (S1.grow gr) gr.fs rx
    | ok r =>
      rw [hg] at p1
      exact fun v F' H' gr nr => by
        obtain ⟨S2, rr⟩ := S1.newR gr nr
        exact p1 v F' H' S2 (st.trans gr.fs) rr
  · exact p1.elim
/-- the def at C.fa c does what g tells -/
def Good (C : Ctx) (P : Program) (w : World) (K : PySem.W.Frag) (mg : Str → Option Value) (base : Heap) (k c n : Nat) (g : List D → FO) : Prop :=
  ∃ fd ps, FnOk P w K mg base (L2.CX P w) k (C.fa c) fd ps (fspec C n g) ∧ PySem.W.keepIn K (.ref (C.fa c)) = true ∧ Binds K fd ps []
def GoodB (C : Ctx) (P : Program) (w : World) (K : PySem.W.Frag) (mg : Str → Option Value) (base : Heap) (k c n : Nat) (g : D → List D → FB) : Prop :=
  ∃ fd ps, FnOk P w K mg base (L2.CX P w) k (C.fa c) fd ps (fspecB C n g) ∧ PySem.W.keepIn K (.ref (C.fa c)) = true ∧ Binds K fd ps []
theorem Good.mono {P : Program} {w : World} {K : PySem.W.Frag} {mg : Str → Option Value} {base : Heap} {j k c n : Nat} {g : List D → FO} (G : Good C P w K mg base j c n g) (h : j ≤ k) : Good C P w K mg base k c n g := by
  obtain ⟨fd, ps, F, a, b⟩ := G
  exact ⟨fd, ps, F.mono h, a, b⟩
theorem me_call {c : Nat} {g : List D → FO} (G : Good C X.prog X.w X.K X.mg X.base k c n g) (hr : Room k X.A) (hg : Gl X x) (hm : X.mg x = some (.ref (C.fa c))) (tk : Takes X W)
    (ha : PA X (e :: es) (tA C B W mr)) (hdb : (x == ("__debug__" : Str)) = false := by decide) (he : starEach (e :: es) X.env = (false, eval e X.env) :: starEach es X.env := by rfl) (hpl : (backTo pos (starEach es X.env)).any (·.1) = false := by rfl) :
    PE X (.Call (.Name x p) (e :: es) [] pos) (tE C B W (eCall n g mr)) := by
  obtain ⟨fd, ps, F, hk, hb⟩ := G
  refine PE.imp (pe_callS F hr hg hm hk hb (fun σ => passAt tk σ) ha hdb he hpl) fun σ H Q ⟨F0, E, S, q⟩ => ?_
  exact tA_go S q fun ds E1 vs F1 H1 S1 st1 r1 p1 => fspec_go S1 st1 r1 p1
/-- no arguments -/
theorem pe_callS0 {CX : CXT} {sp : Sp} {E : L2.St → XK} (F : FnOk X.prog X.w X.K X.mg X.base CX k f fd ps sp) (hr : Room k X.A) (hg : Gl X x) (hm : X.mg x = some (.ref f)) (hk : PySem.W.keepIn X.K (.ref f) = true) (hb : Binds X.K fd ps []) (hx : ∀ σ, PassesAt CX X σ (E σ))
    (hdb : (x == ("__debug__" : Str)) = false := by decide) : PE X (.Call (.Name x p) [] [] pos) (fun σ H Q => sp [] H Q (E σ)) := by
  refine ⟨fun pins s σ H Q I h => ?_⟩
  refine wpAny_Call_Name_kw (ld_glob I hg hm ?_ hdb)
  exact PySem.W.callWith_K0 I.kIn hk (run_fnS (us := []) F hr hb (hx σ) I .nil h)
theorem me_call0 {c : Nat} {g : List D → FO} (G : Good C X.prog X.w X.K X.mg X.base k c n g) (hr : Room k X.A) (hg : Gl X x) (hm : X.mg x = some (.ref (C.fa c))) (tk : Takes X W)
    (hdb : (x == ("__debug__" : Str)) = false := by decide) : PE X (.Call (.Name x p) [] [] pos) (tE C B W (eCall n g aNil)) := by
  obtain ⟨fd, ps, F, hk, hb⟩ := G
  refine PE.imp (pe_callS0 F hr hg hm hk hb (fun σ => passAt tk σ) hdb) fun σ H Q ⟨F0, E, S, q⟩ => ?_
  exact fspec_go S (Same.refl F0) .nil q
/-- the defs that a slot may hold -/
structure Tab (C : Ctx) (P : Program) (w : World) (K : PySem.W.Frag) (mg : Str → Option Value) (base : Heap) (k n : Nat) (T : Nat → Option (List D → FO)) : Prop where
  ok : ∀ c g, T c = some g → Good C P w K mg base k c n g
theorem me_callL {T : Nat → Option (List D → FO)} (i : Nat) (A : Tab C X.prog X.w X.K X.mg X.base k n T) (hr : Room k X.A) (tk : Takes X W) (ha : PA X (e :: es) (tA C B W mr)) (hN : X.N[i]? = some x := by rfl)
    (hv : Vis X.env.scope x := by first | exact Or.inl rfl | exact Or.inr (Or.inl rfl) | exact Or.inr (Or.inr rfl)) (hdb : (x == ("__debug__" : Str)) = false := by decide) (hcd : (x == ("__classdict__" : Str)) = false := by decide)
    (he : starEach (e :: es) X.env = (false, eval e X.env) :: starEach es X.env := by rfl) (hpl : (backTo pos (starEach es X.env)).any (·.1) = false := by rfl) : PE X (.Call (.Name x p) (e :: es) [] pos) (tE C B W (eCallL n i T mr)) := by
  refine ⟨fun pins s σ H Q I ⟨F0, E, S, q⟩ => ?_⟩
  unfold eCallL at q
  cases hE : E[i]? with
  | none => rw [hE] at q; exact q.elim
  | some sl =>
    rw [hE] at q
    cases sl with
    | sh d =>
      cases d with
      | gl c =>
        obtain ⟨v, h1, h2⟩ := S.sl i _ hE
        cases h2
        dsimp only at q
        cases hT : T c with
        | none => rw [hT] at q; exact q.elim
        | some g =>
          rw [hT] at q
          dsimp only at q
          obtain ⟨fd, ps, F, hk, hb⟩ := A.ok c g hT
          refine wpAny_Call_Name_kw (thn ((pe_var (pos := p) hN hv hdb hcd).run pins s σ H (fun v H1 => v = .ref (C.fa c) ∧ H1 = H) I ⟨.ref (C.fa c), h1, rfl, rfl⟩) fun u s1 ⟨v, H1, I1, r1, q1⟩ => ?_)
          obtain ⟨rfl, rfl⟩ := q1
          cases r1
          have ht : tA C B W mr σ H1 (fun vs H2 => fspec C n g vs H2 Q (WE W σ)) := tA_go S q fun ds E1 vs F1 H2 S1 st1 r1 p1 => fspec_go S1 st1 r1 p1
          refine PySem.W.callWith_K (h₀ := X.base) I.ok.mod.kin hk (thn (ha.run pos pins s1 σ _ _ I1 ht) fun us s2 ⟨vs, H2, I2, r, q2⟩ => ⟨I2.kIn, ?_⟩) he hpl
          exact run_fnS F hr hb (passAt tk σ) I2 r q2
      | _ => exact q.elim
    | _ => exact q.elim
theorem ownAt_inv {E : Ev} {i : Nat} (h : ownAt E i = true) : ∃ s, E[i]? = some s ∧ s.own = true := by
  unfold ownAt at h
  cases e : E[i]? with
  | none => rw [e] at h; cases h
  | some s => rw [e] at h; exact ⟨s, rfl, h⟩
variable {y : Str} {py : Pos}
theorem me_callO {c : Nat} {g : D → List D → FB} (i : Nat) (G : GoodB C X.prog X.w X.K X.mg X.base k c n g) (hr : Room k X.A) (hg : Gl X x) (hm : X.mg x = some (.ref (C.fa c))) (tk : Takes X W)
    (ha : PA X es (tA C B W mr)) (hN : X.N[i]? = some y := by rfl) (hv : Vis X.env.scope y := by first | exact Or.inl rfl | exact Or.inr (Or.inl rfl) | exact Or.inr (Or.inr rfl)) (hdy : (y == ("__debug__" : Str)) = false := by decide) (hcy : (y == ("__classdict__" : Str)) = false := by decide)
    (hdb : (x == ("__debug__" : Str)) = false := by decide) (he : starEach (.Name y py :: es) X.env = (false, eval (.Name y py) X.env) :: starEach es X.env := by rfl) (hpl : (backTo pos (starEach es X.env)).any (·.1) = false := by rfl) :
    PE X (.Call (.Name x p) (.Name y py :: es) [] pos) (tE C B W (eCallB n i g mr)) := by
  obtain ⟨fd, ps, F, hk, hb⟩ := G
  refine PE.imp (pe_callS F hr hg hm hk hb (fun σ => passAt tk σ) (pa_cons (pe_var (i := i) hN hv hdy hcy) ha he) hdb he hpl) fun σ H Q ⟨F0, E, S, q⟩ => ?_
  unfold eCallB at q
  split at q
  · rename_i ho
    obtain ⟨s0, e0, o0⟩ := ownAt_inv ho
    obtain ⟨a, d0, ha0, _, _, _⟩ := S.at e0 o0
    refine ⟨_, ha0, ?_⟩
    refine tA_go S q fun ds E1 vs F1 H1 S1 st1 r1 p1 => ?_
    split at p1
    · rename_i hl
      have key : ∀ (d : D) (kd : D → Sl), E1[i]? = some (kd d) → (∀ d, (kd d).own = true) → (∀ d', (kd d = .ow d ∧ kd d' = .ow d') ∨ (kd d = .bo d ∧ kd d' = .bo d')) → Post C B W F1 σ (kE C B F0 σ Q) (goB i kd (g d ds) E1) → fspecB C n g (.ref a :: vs) H1 Q (WE W σ) := fun d kd e1 ok kd2 p1 => by
        obtain ⟨a', d1, y1, y2, y3, _⟩ := S1.at e1 (ok d)
        rw [ha0] at y1; cases y1
        have ed : d1 = d := by
          rcases kd2 d with ⟨h, _⟩ | ⟨h, _⟩ <;> rcases y3 with y3 | y3 <;> rw [h] at y3 <;> cases y3 <;> rfl
        subst ed
        refine ⟨F1, a, d1, vs, ds, S1.fh, rfl, y2, r1, hl, ?_⟩
        cases hgd : g d1 ds with
        | stuck => rw [hgd] at p1; exact p1
        | ex x d' => 
          rw [hgd] at p1
          exact fun cls e F' H' gr o rx => p1 cls e F' H' (S1.upd e1 (kd2 d') ha0 gr o) gr.fs rx
        | ok r d' =>
          rw [hgd] at p1
          exact fun v F' H' gr o nr => by
            have S2 := S1.upd e1 (kd2 d') ha0 gr o
            refine p1 v F' H' S2 (st1.trans gr.fs) ?_
            cases r with
            | sh d => exact nr
            | fr d =>
              obtain ⟨b, eb, nb, ob⟩ := nr
              refine ⟨b, eb, ob, S1.g.bs b nb, fun j t q os z => ?_, ?_⟩
              · have old : ∃ t', E1[j]? = some t' ∧ t'.own = true := by
                  rw [List.getElem?_set] at q
                  split at q
                  · rename_i hij; subst hij; exact ⟨_, e1, ok d1⟩
                  · exact ⟨t, q, os⟩
                obtain ⟨t', q1, q2⟩ := old
                obtain ⟨c, dc, z1, z2, _⟩ := S1.at q1 q2
                rw [z] at z1; cases z1
                obtain ⟨u, hu⟩ := z2.tracked
                rw [nb] at hu; cases hu
              · cases q : B.pin b with
                | none => rfl
                | some w => have := (S1.pn b w q).1; rw [nb] at this; cases this
      cases e1 : E1[i]? with
      | none => rw [e1] at p1; exact p1.elim
      | some s =>
        rw [e1] at p1
        cases s with
        | ow d => exact key d .ow e1 (fun _ => rfl) (fun _ => .inl ⟨rfl, rfl⟩) p1
        | bo d => exact key d .bo e1 (fun _ => rfl) (fun _ => .inr ⟨rfl, rfl⟩) p1
        | _ => exact p1.elim
    · exact p1.elim
  · exact q.elim
end
end MM

/-! MM: what is owned, read and changed; comprehensions. -/
namespace MM
open PySem PySem.Spec PyProof.Rows L2

def hold (E : Ev) (i : Nat) : Option D := match E[i]? with
  | some (.ow d) => some d
  | some (.bo d) => some d
  | _ => none
def putH (E : Ev) (i : Nat) (d : D) : Ev := match E[i]? with
  | some (.ow _) => E.set i (.ow d)
  | some (.bo _) => E.set i (.bo d)
  | _ => E
section
variable {C : Ctx} {B : Base} {F F' H H' : Hp} {E : Ev} {σ : St} {i : Nat} {d d' : D} {a : Addr}
theorem hold_inv (h : hold E i = some d) : E[i]? = some (.ow d) ∨ E[i]? = some (.bo d) := by
  unfold hold at h
  split at h
  · cases h; exact .inl (by assumption)
  · cases h; exact .inr (by assumption)
  · cases h
theorem Sim.hold (S : Sim C B F H E σ) (h : hold E i = some d) : ∃ a, σ[i]? = some (some (.ref a)) ∧ Own C F H a d := by
  rcases hold_inv h with e | e
  · obtain ⟨a, h1, h2, _⟩ := S.sl i _ e; exact ⟨a, h1, h2⟩
  · obtain ⟨a, h1, h2, _⟩ := S.sl i _ e; exact ⟨a, h1, h2⟩
theorem Sim.putH (S : Sim C B F H E σ) (h : MM.hold E i = some d) (ha : σ[i]? = some (some (.ref a))) (g : Grow (fun c => c = a) F H F' H') (o : Own C F' H' a d') : Sim C B F' H' (putH E i d') σ := by
  unfold MM.putH
  rcases hold_inv h with e | e
  · rw [e]; exact S.upd e (.inl ⟨rfl, rfl⟩) ha g o
  · rw [e]; exact S.upd e (.inr ⟨rfl, rfl⟩) ha g o
end
/-- x.m(..): f tells what x holds then, and the answer; q: what x holds ahead of the arguments -/
def eOwn (i : Nat) (q : D → Bool) (f : D → List D → Option (D × D)) (m : M (List D)) : M RV := fun E => match hold E i with
  | some d0 => if q d0 = true then (m E).bind fun ds E1 => (match hold E1 i with
    | some d => (match f d ds with | some (d', r) => .ok (.sh r) (putH E1 i d') | none => .stuck)
    | none => .stuck) else .stuck
  | none => .stuck
def eIxO (i : Nat) (m : M RV) : M RV := fun E => match hold E i with
  | some d0 => (m E).bind fun k E1 => (match hold E1 i with
    | some (.lst xs) => (match k.d with | .int j => (match atI xs j with | some d => .ok (.sh d) E1 | none => .stuck) | _ => .stuck)
    | _ => .stuck)
  | none => .stuck
def eLenO (i : Nat) : M RV := fun E => match hold E i with
  | some (.lst xs) => .ok (.sh (.int xs.length)) E
  | _ => .stuck
def isLst : D → Bool
  | .lst _ => true
  | _ => false
def sSetIx (i : Nat) (mv mk : M RV) : M Fl := fun E => (mv E).bind fun v E1 => match hold E1 i with
  | some d0 => (mk E1).bind fun k E2 => (match hold E2 i with
    | some (.lst xs) => (match k.d with | .int j => (match ixN xs.length j with | some n => .ok .nx (putH E2 i (.lst (xs.set n v.d))) | none => .stuck) | _ => .stuck)
    | _ => .stuck)
  | none => .stuck
/-- a method by values -/
def OwnR (C : Ctx) (r : V → List V → Hp → VK → Prop) (f : D → List D → Option (D × D)) : Prop := ∀ (F H : Hp) (a : Addr) (d : D) (vs : List V) (ds : List D) (d' rd : D) (Q : VK), Same F H → Own C F H a d → RepL C F vs ds → f d ds = some (d', rd) →
  (∀ v F' H', Grow (fun c => c = a) F H F' H' → Own C F' H' a d' → Rep C F' v rd → Q v H') → r (.ref a) vs H Q
section
variable {C : Ctx} {B : Base} {W : WX} {X : Cx} {pos p apos cpos : Pos} {e b : Expr} {es : List Expr} {mr : M (List D)} {mb mv : M RV} {x y name : Str} {py : Pos} {T id : String} {r : V → List V → Hp → VK → Prop} {q : D → Bool} {f : D → List D → Option (D × D)}
theorem eOwn_go (i : Nat) {σ : St} {H : Hp} {Q : VK} (ty : ∀ F H a d, Own C F H a d → q d = true → tyV X.K T (.ref a) H) (ho : OwnR C r f) (t : tE C B W (eOwn i q f mr) σ H Q) : tBM X.K T r (tVar i) (tA C B W mr) σ H Q := by
  obtain ⟨F0, E, S, p⟩ := t
  unfold eOwn at p
  cases e : hold E i with
  | none => rw [e] at p; exact p.elim
  | some d0 =>
    rw [e] at p
    dsimp only at p
    split at p
    · rename_i hq
      obtain ⟨a, ha, o0⟩ := S.hold e
      refine ⟨_, ha, ty _ _ _ _ o0 hq, ?_⟩
      refine tA_go S p fun ds E1 vs F1 H1 S1 st1 r1 p1 => ?_
      cases e1 : hold E1 i with
      | none => rw [e1] at p1; exact p1.elim
      | some d =>
        rw [e1] at p1
        dsimp only at p1
        cases hf : f d ds with
        | none => rw [hf] at p1; exact p1.elim
        | some pr =>
          rw [hf] at p1
          obtain ⟨d', rd⟩ := pr
          obtain ⟨a', ha', o1⟩ := S1.hold e1
          rw [ha] at ha'; cases ha'
          exact ho F1 H1 a d vs ds d' rd Q S1.fh o1 r1 hf fun v F' H' g o rr => p1 v F' H' (S1.putH e1 ha g o) (st1.trans g.fs) rr
    · exact p.elim
theorem me_own (i : Nat) (pa : PlainAttrs T) (slot : PySem.Slot T name id) (hty : typeOf (.builtin id) = pure (.type "method_descriptor")) (hm : MtR X id r) (ty : ∀ F H a d, Own C F H a d → q d = true → tyV X.K T (.ref a) H) (ho : OwnR C r f)
    (ha : PA X (e :: es) (tA C B W mr)) (hN : X.N[i]? = some y := by rfl) (hv : Vis X.env.scope y := by first | exact Or.inl rfl | exact Or.inr (Or.inl rfl) | exact Or.inr (Or.inr rfl)) (hdy : (y == ("__debug__" : Str)) = false := by decide) (hcy : (y == ("__classdict__" : Str)) = false := by decide)
    (h1 : attributeBase (.Name y py) name X.env (eval (.Name y py) X.env) = eval (.Name y py) X.env := by rfl)
    (h2 : (((backTo cpos (starEach (e :: es) X.env)).all fun x => !x.fst) && ((backToKw cpos (keywordEach [] X.env)).all fun x => x.fst.isSome) && decide (((e :: es).length + ([] : List Keyword).length + if ([] : List Keyword).isEmpty = true then 0 else 1) < 30)) = true := by rfl)
    (h3 : (apos.endLine == cpos.line) = true := by rfl) (h4 : starEach (e :: es) X.env = (false, eval e X.env) :: starEach es X.env := by rfl) (h5 : ((backTo cpos (starEach es X.env)).any fun x => x.fst) = false := by rfl) :
    PE X (.Call (.Attribute (.Name y py) name apos) (e :: es) [] cpos) (tE C B W (eOwn i q f mr)) :=
  PE.imp (pe_bm pa slot hty hm (pe_var hN hv hdy hcy) ha h1 h2 h3 h4 h5) fun _ _ _ t => eOwn_go i ty ho t
theorem ty_list {F H : Hp} {a : Addr} {d : D} (o : Own C F H a d) (h : isLst d = true) {K : PySem.W.Frag} : tyV K "list" (.ref a) H := by
  cases d with
  | lst ds => obtain ⟨_, vs, e, _⟩ := o; exact .inl ⟨rfl, _, SqL.of e⟩
  | _ => cases h
/-! ### what is at an owned list's place -/
theorem me_ixO (hK : X.K = C.K) (i : Nat) (hb : PE X b (tE C B W mb)) (hs : PlainIx b) (hN : X.N[i]? = some y := by rfl) (hv : Vis X.env.scope y := by first | exact Or.inl rfl | exact Or.inr (Or.inl rfl) | exact Or.inr (Or.inr rfl)) (hdy : (y == ("__debug__" : Str)) = false := by decide) (hcy : (y == ("__classdict__" : Str)) = false := by decide) :
    PE X (.Subscript (.Name y py) b pos) (tE C B W (eIxO i mb)) := by
  refine PE.imp (pe_ix ix_list (pe_var (i := i) hN hv hdy hcy) hb hs) fun σ H Q ⟨F0, E, S, p⟩ => ?_
  unfold eIxO at p
  cases e : hold E i with
  | none => rw [e] at p; exact p.elim
  | some d0 =>
    rw [e] at p
    dsimp only at p
    obtain ⟨a, ha, o0⟩ := S.hold e
    refine ⟨_, ha, ?_⟩
    refine tE_go S p fun k E1 v F1 H1 S1 st1 r1 p1 => ?_
    cases e1 : hold E1 i with
    | none => rw [e1] at p1; exact p1.elim
    | some d =>
      rw [e1] at p1
      obtain ⟨a', ha', o1⟩ := S1.hold e1
      rw [ha] at ha'; cases ha'
      cases d with
      | lst xs =>
        obtain ⟨_, vs, hH, rl⟩ := o1
        dsimp only at p1
        cases hk : k.d with
        | int j =>
          rw [hk] at p1 r1
          cases r1
          dsimp only at p1
          cases hx : atI xs j with
          | none => rw [hx] at p1; exact p1.elim
          | some d =>
            rw [hx] at p1
            unfold atI at hx
            obtain ⟨n, hn1, hn2⟩ := Option.bind_eq_some_iff.mp hx
            obtain ⟨v, hv1, hv2⟩ := rl.get hn2
            refine ⟨a, vs, j, v, rfl, rfl, SqL.of hH, ?_, p1 v F1 H1 S1 st1 hv2⟩
            unfold atI
            rw [rl.length, hn1]
            exact hv1
        | _ => rw [hk] at p1; exact p1.elim
      | _ => exact p1.elim
theorem me_lenO (hK : X.K = C.K) (i : Nat) (hg : Gl X "len") (hm : X.mg "len" = none) (hN : X.N[i]? = some y := by rfl) (hv : Vis X.env.scope y := by first | exact Or.inl rfl | exact Or.inr (Or.inl rfl) | exact Or.inr (Or.inr rfl)) (hdy : (y == ("__debug__" : Str)) = false := by decide) (hcy : (y == ("__classdict__" : Str)) = false := by decide)
    (he : starEach [.Name y py] X.env = (false, eval (.Name y py) X.env) :: starEach [] X.env := by rfl) (hpl : (backTo pos (starEach [] X.env)).any (·.1) = false := by rfl) :
    PE X (.Call (.Name "len" p) [.Name y py] [] pos) (tE C B W (eLenO i)) := by
  refine PE.imp (pe_callB call_len_seq hg hm PySem.boot_len (pa_cons (pe_var (i := i) hN hv hdy hcy) pa_nil he) (by decide) (by decide) he hpl) fun σ H Q ⟨F0, E, S, p⟩ => ?_
  unfold eLenO at p
  cases e : hold E i with
  | none => rw [e] at p; exact p.elim
  | some d =>
    rw [e] at p
    obtain ⟨a, ha, o⟩ := S.hold e
    cases d with
    | lst xs =>
      obtain ⟨_, vs, hH, rl⟩ := o
      refine ⟨_, ha, a, vs, rfl, .inl (SqL.of hH), ?_⟩
      rw [rl.length]
      exact p _ F0 H S (Same.refl F0) (.int _)
    | _ => exact p.elim
theorem ms_setIx (i : Nat) {k : Expr} (he : PE X e (tE C B W mv)) (hk : PE X k (tE C B W mb)) (hN : X.N[i]? = some y := by rfl) (hv : Vis X.env.scope y := by first | exact Or.inl rfl | exact Or.inr (Or.inl rfl) | exact Or.inr (Or.inr rfl)) (hdy : (y == ("__debug__" : Str)) = false := by decide) (hcy : (y == ("__classdict__" : Str)) = false := by decide)
    (ha : ∀ v, assign (.Subscript (.Name y py) k p) X.env v = (do
      let ov ← holding [v] (eval (.Name y py) X.env)
      let iv ← holding [v, ov] (eval k X.env)
      standAt p
      holding [v, ov, iv] (setItem ov iv v)
      release [v, ov, iv] []) := by intro _; rfl)
    (hs : swapsWithSole [.Subscript (.Name y py) k p] e pos.line X.env = pure false := by rfl) (hw : swappedStores [.Subscript (.Name y py) k p] e X.env = pure none := by rfl)
    (h1 : (assignEach [.Subscript (.Name y py) k p] X.env).map (·.2) = [assign (.Subscript (.Name y py) k p) X.env] := by rfl) : PS X (.Assign [.Subscript (.Name y py) k p] e pos) (tS C B W (sSetIx i mv mb)) := by
  refine PS.imp (ps_asg he (pg_sub (pe_var (i := i) hN hv hdy hcy) hk set_list ha) hs hw h1) fun D σ H ⟨F0, E, S, q⟩ => ?_
  refine sE_go S q fun r E1 v F1 H1 S1 st1 rr p1 => ?_
  obtain ⟨F2, S2, st2, r2⟩ := S1.toSh rr
  cases e1 : hold E1 i with
  | none => rw [e1] at p1; exact p1.elim
  | some d0 =>
    rw [e1] at p1
    dsimp only at p1
    obtain ⟨a, ha, o0⟩ := S2.hold e1
    refine ⟨_, ha, ?_⟩
    refine sE_go S2 (p1.mono st2 fun _ _ z => z) fun kk E3 kv F3 H3 S3 st3 rk p3 => ?_
    obtain ⟨F4, S4, st4, r4⟩ := S3.toSh rk
    cases e3 : hold E3 i with
    | none => rw [e3] at p3; exact p3.elim
    | some d =>
      rw [e3] at p3
      obtain ⟨a', ha', o1⟩ := S4.hold e3
      rw [ha] at ha'; cases ha'
      cases d with
      | lst xs =>
        obtain ⟨nF, vs, hH, rl⟩ := o1
        dsimp only at p3
        cases hkd : kk.d with
        | int j =>
          rw [hkd] at p3 r4
          cases r4
          dsimp only at p3
          cases hx : ixN xs.length j with
          | none => rw [hx] at p3; exact p3.elim
          | some n =>
            rw [hx] at p3
            refine ⟨a, vs, j, n, rfl, rfl, hH, by rw [rl.length]; exact hx, ?_⟩
            have g : Grow (fun c => c = a) F4 H3 F4 (upd H3 a (.lst (vs.set n v))) := ⟨fun c w q n => by rw [upd_ne n]; exact q, fun c q => by
              by_cases z : c = a
              · subst z; rw [upd_same] at q; cases q
              · rw [upd_ne z] at q; exact q, Same.refl F4, fun c w q => by
              rw [upd_ne (fun z => by subst z; rw [nF] at q; cases q)]; exact S4.fh _ _ q, fun c q => .inl q⟩
            have st14 : Same F2 F4 := st3.trans st4
            exact p3 σ F4 _ (S4.putH e3 ha g ⟨nF, _, upd_same, rl.set (r2.mono st14) n⟩) (st1.trans (st2.trans st14))
        | _ => rw [hkd] at p3; exact p3.elim
      | _ => exact p3.elim
end

/-- the heap with one owned list changed -/
theorem grow_upd {F H : Hp} {a : Addr} {o : HO} (st : Same F H) (nF : F a = none) : Grow (fun c => c = a) F H F (upd H a o) :=
  ⟨fun c w q n => by rw [upd_ne n]; exact q, fun c q => by
    by_cases z : c = a
    · subst z; rw [upd_same] at q; cases q
    · rw [upd_ne z] at q; exact q, Same.refl F, fun c w q => by
    rw [upd_ne (fun z => by subst z; rw [nF] at q; cases q)]; exact st _ _ q, fun c q => .inl q⟩
def fAppend (d : D) (ds : List D) : Option (D × D) := match d, ds with
  | .lst xs, [y] => if xs.length < sizeLine then some (.lst (xs ++ [y]), .non) else none
  | _, _ => none
theorem own_append {C : Ctx} : OwnR C rAppend fAppend := by
  intro F H a d vs ds d' rd Q st o r e q
  unfold fAppend at e
  split at e
  · rename_i xs y
    split at e
    · rename_i hl
      cases e
      obtain ⟨nF, ws, hH, rl⟩ := o
      cases r with
      | cons r0 rn =>
        cases rn
        exact ⟨a, ws, _, rfl, rfl, hH, by rw [rl.length]; exact hl, q _ F _ (grow_upd st nF) ⟨nF, _, upd_same, rl.append (.cons r0 .nil)⟩ .non⟩
    · cases e
  · cases e
def fPop (d : D) (ds : List D) : Option (D × D) := match d, ds with
  | .lst xs, [] => (match xs[xs.length - 1]? with | some y => some (.lst xs.dropLast, y) | none => none)
  | _, _ => none
theorem RepL.dropLast {C : Ctx} {F : Hp} {vs : List V} {ds : List D} (r : RepL C F vs ds) : RepL C F vs.dropLast ds.dropLast := by
  rw [List.dropLast_eq_take, List.dropLast_eq_take, r.length]
  exact r.take _
theorem own_pop {C : Ctx} : OwnR C rPop fPop := by
  intro F H a d vs ds d' rd Q st o r e q
  unfold fPop at e
  split at e
  · rename_i xs
    cases hx : xs[xs.length - 1]? with
    | none => rw [hx] at e; cases e
    | some y =>
      rw [hx] at e
      cases e
      obtain ⟨nF, ws, hH, rl⟩ := o
      cases r
      obtain ⟨v, h1, h2⟩ := rl.get hx
      exact ⟨a, ws, v, rfl, rfl, hH, by rw [rl.length]; exact h1, q _ F _ (grow_upd st nF) ⟨nF, _, upd_same, rl.dropLast⟩ h2⟩
  · cases e

/-- xs.extend(ys): a list, a tuple -/
def fExtend (d : D) (ds : List D) : Option (D × D) := match d, ds with
  | .lst xs, [.lst ys] => if xs.length + ys.length ≤ sizeLine then some (.lst (xs ++ ys), .non) else none
  | _, _ => none
theorem own_extend {C : Ctx} : OwnR C rExtend fExtend := by
  intro F H a d vs ds d' rd Q st o r e q
  unfold fExtend at e
  split at e
  · rename_i xs ys
    split at e
    · rename_i hl
      cases e
      obtain ⟨nF, ws, hH, rl⟩ := o
      cases r with
      | cons r0 rn =>
        cases rn
        cases r0 with
        | @lst b zs _ hb rz => exact ⟨a, b, ws, zs, rfl, rfl, hH, st _ _ hb, by rw [rl.length, rz.length]; exact hl, q _ F _ (grow_upd st nF) ⟨nF, _, upd_same, rl.append rz⟩ .non⟩
    · cases e
  · cases e
end MM

/-! MM: comprehensions. -/
namespace MM
open PySem PySem.Spec PyProof.Rows L2

def wipeE (E : Ev) : List Nat → Ev
  | [] => E
  | v :: vs => (wipeE E vs).set v .un
def keepSh (s : Option Sl) : Sl := match s with
  | some (.sh d) => .sh d
  | _ => .un
def restE (E1 : Ev) : List Nat → Ev → Ev
  | [], E2 => E2
  | v :: vs, E2 => (restE E1 vs E2).set v (keepSh E1[v]?)
def lcL (g : Tgt) (mt : M Bool) (me : M RV) (vs : List Nat) : List D → Ev → List D → Out (List D)
  | [], E, acc => .ok acc E
  | d :: ds, E, acc => match g d E with
    | none => .stuck
    | some E1 => match mt E1 with
      | .ok true E2 => (match me E2 with
        | .ok r E3 => if acc.length < sizeLine then lcL g mt me vs ds (wipeE E3 vs) (acc ++ [r.d]) else .stuck
        | _ => .stuck)
      | .ok false E2 => lcL g mt me vs ds (wipeE E2 vs) acc
      | _ => .stuck
def eLc (mi : M (List D)) (g : Tgt) (mt : M Bool) (me : M RV) (vs : List Nat) : M RV := fun E => (mi E).bind fun ds E1 => (lcL g mt me vs ds (wipeE E1 vs) []).bind fun acc E2 => .ok (.fr (.lst acc)) (restE E1 vs E2)
def tTrue : M Bool := fun E => .ok true E
abbrev WNo : WX := fun _ _ _ _ => False

section
variable {C : Ctx} {B : Base} {F F' H H' : Hp} {E E' : Ev} {σ : St}
theorem wipeE_len (E : Ev) : ∀ vs, (wipeE E vs).length = E.length
  | [] => rfl
  | v :: vs => by unfold wipeE; rw [List.length_set, wipeE_len E vs]
theorem wipeE_get {i : Nat} {s : Sl} : ∀ {vs : List Nat}, (wipeE E vs)[i]? = some s → s = .un ∨ (i ∉ vs ∧ E[i]? = some s)
  | [], h => .inr ⟨by simp, h⟩
  | v :: vs, h => by
    unfold wipeE at h
    rw [List.getElem?_set] at h
    split at h
    · split at h
      · cases h; exact .inl rfl
      · cases h
    · rename_i hv
      rcases wipeE_get h with h | ⟨h1, h2⟩
      · exact .inl h
      · exact .inr ⟨by simp only [List.mem_cons, not_or]; exact ⟨fun z => hv z.symm, h1⟩, h2⟩
theorem wipe_get {i : Nat} : ∀ {vs : List Nat}, i ∉ vs → (wipe σ vs)[i]? = σ[i]?
  | [], _ => rfl
  | v :: vs, h => by
    simp only [List.mem_cons, not_or] at h
    unfold wipe
    rw [List.getElem?_set_ne (fun z => h.1 z.symm)]
    exact wipe_get h.2
theorem restE_len (E1 : Ev) (E2 : Ev) : ∀ vs, (restE E1 vs E2).length = E2.length
  | [] => rfl
  | v :: vs => by unfold restE; rw [List.length_set, restE_len E1 E2 vs]
theorem restE_get {E1 E2 : Ev} {i : Nat} {s : Sl} : ∀ {vs : List Nat}, (restE E1 vs E2)[i]? = some s → (s = keepSh E1[i]?) ∨ (i ∉ vs ∧ E2[i]? = some s)
  | [], h => .inr ⟨by simp, h⟩
  | v :: vs, h => by
    unfold restE at h
    rw [List.getElem?_set] at h
    split at h
    · rename_i hv; subst hv
      split at h
      · cases h; exact .inl rfl
      · cases h
    · rename_i hv
      rcases restE_get h with h | ⟨h1, h2⟩
      · exact .inl h
      · exact .inr ⟨by simp only [List.mem_cons, not_or]; exact ⟨fun z => hv z.symm, h1⟩, h2⟩
theorem Sim.wipe (S : Sim C B F H E σ) (vs : List Nat) : Sim C B F H (wipeE E vs) (L2.wipe σ vs) := by
  have back : ∀ (i : Nat) (s : Sl), (wipeE E vs)[i]? = some s → s.own = true → E[i]? = some s ∧ (L2.wipe σ vs)[i]? = σ[i]? := fun i s e o => by
    rcases wipeE_get e with rfl | ⟨h1, h2⟩
    · cases o
    · exact ⟨h2, wipe_get h1⟩
  refine ⟨S.g, by rw [wipe_length, wipeE_len]; exact S.len, fun i s e => ?_, fun i j s t a e1 e2 o1 o2 z1 z2 => ?_, fun a o e => ?_⟩
  · rcases wipeE_get e with rfl | ⟨h1, h2⟩
    · trivial
    · rw [wipe_get h1]; exact S.sl i s h2
  · obtain ⟨p1, p2⟩ := back i s e1 o1
    obtain ⟨q1, q2⟩ := back j t e2 o2
    exact S.sep i j s t a p1 q1 o1 o2 (p2 ▸ z1) (q2 ▸ z2)
  · obtain ⟨h1, h2, h3⟩ := S.pn a o e
    refine ⟨h1, h2, fun i s q os => ?_⟩
    obtain ⟨p1, p2⟩ := back i s q os
    rw [p2]
    exact h3 i s p1 os
/-- the base with one more thing that stays -/
abbrev Base.pinned (B : Base) (a : Addr) (o : HO) : Base := { B with pin := L2.upd B.pin a o }
theorem Sim.unpin {a : Addr} {o : HO} (S : Sim C (B.pinned a o) F H E σ) (hn : B.pin a = none) : Sim C B F H E σ ∧ H a = some o ∧ F a = none ∧ Apart E σ a := by
  refine ⟨⟨S.g, S.len, S.sl, S.sep, fun c w e => S.pn c w ?_⟩, S.pn a o ?_⟩
  · show L2.upd B.pin a o c = some w
    rw [upd_ne (ne_of_none e hn)]
    exact e
  · show L2.upd B.pin a o a = some o
    exact upd_same
theorem Sim.topin {a : Addr} {o : HO} (S : Sim C B F H E σ) (h1 : H a = some o) (h2 : F a = none) (h3 : Apart E σ a) : Sim C (B.pinned a o) F H E σ := by
  refine ⟨S.g, S.len, S.sl, S.sep, fun c w e => ?_⟩
  have e : L2.upd B.pin a o c = some w := e
  by_cases z : c = a
  · subst z; rw [upd_same] at e; cases e; exact ⟨h1, h2, h3⟩
  · rw [upd_ne z] at e; exact S.pn c w e
/-- the pinned list changes -/
theorem Sim.repin {a : Addr} {o o' : HO} (S : Sim C (B.pinned a o) F H E σ) (hn : B.pin a = none) (h0 : B.H0 a = none) : Sim C (B.pinned a o') F (L2.upd H a o') E σ := by
  obtain ⟨S1, h1, h2, h3⟩ := S.unpin hn
  have ne : ∀ c, c ≠ a → (L2.upd H a o') c = H c := fun c z => upd_ne z
  have own : ∀ (i : Nat) (s : Sl) (b : Addr) (d : D), E[i]? = some s → s.own = true → σ[i]? = some (some (.ref b)) → Own C F H b d → Own C F (L2.upd H a o') b d := fun i s b d e os z ob => by
    have nb : b ≠ a := fun q => h3 i s e os (q ▸ z)
    obtain ⟨n, r⟩ := ob
    refine ⟨n, ?_⟩
    rw [ne b nb]
    exact r
  refine ⟨⟨fun c w q nb => ?_, fun c q => ?_, S1.g.fs, fun c w q => ?_, S1.g.nw⟩, S1.len, fun i s e => ?_, S1.sep, fun c w e => ?_⟩
  · have z : c ≠ a := fun z => by subst z; rw [show B.H0 c = none from h0] at q; cases q
    rw [ne c z]; exact S1.g.hs c w q nb
  · by_cases z : c = a
    · subst z; rw [upd_same] at q; cases q
    · rw [ne c z] at q; exact S1.g.bs c q
  · have z : c ≠ a := fun z => by subst z; rw [h2] at q; cases q
    rw [ne c z]; exact S1.fh c w q
  · have x := S1.sl i s e
    cases s with
    | un => trivial
    | sh d => exact x
    | ow d => obtain ⟨b, y1, y2, y3⟩ := x; exact ⟨b, y1, own i _ b d e rfl y1 y2, y3⟩
    | bo d => obtain ⟨b, y1, y2, y3⟩ := x; exact ⟨b, y1, own i _ b d e rfl y1 y2, y3⟩
  · have e : L2.upd B.pin a o' c = some w := e
    by_cases z : c = a
    · subst z; rw [upd_same] at e; cases e; exact ⟨upd_same, h2, h3⟩
    · rw [upd_ne z] at e
      obtain ⟨y1, y2, y3⟩ := S1.pn c w e
      exact ⟨by rw [ne c z]; exact y1, y2, y3⟩
/-- behind the comprehension: the slots as they stand -/
theorem Sim.rest {E1 : Ev} {F1 H1 : Hp} {vs : List Nat} (S1 : Sim C B F1 H1 E1 σ) (S : Sim C B F H (wipeE E vs) (L2.wipe σ vs)) (st : Same F1 F) : Sim C B F H (restE E1 vs (wipeE E vs)) σ := by
  have back : ∀ (i : Nat) (s : Sl), (restE E1 vs (wipeE E vs))[i]? = some s → s.own = true → (wipeE E vs)[i]? = some s ∧ (L2.wipe σ vs)[i]? = σ[i]? := fun i s e o => by
    rcases restE_get e with rfl | ⟨h1, h2⟩
    · unfold keepSh at o
      split at o <;> cases o
    · exact ⟨h2, wipe_get h1⟩
  refine ⟨S.g, by rw [restE_len, ← S.len, wipe_length], fun i s e => ?_, fun i j s t a e1 e2 o1 o2 z1 z2 => ?_, fun a o e => ?_⟩
  · rcases restE_get e with rfl | ⟨h1, h2⟩
    · cases q : E1[i]? with
      | none => trivial
      | some s1 =>
        cases s1 with
        | sh d =>
          obtain ⟨v, y1, y2⟩ := S1.sl i _ q
          exact ⟨v, y1, y2.mono st⟩
        | _ => trivial
    · have := S.sl i s h2
      rw [wipe_get h1] at this
      exact this
  · obtain ⟨p1, p2⟩ := back i s e1 o1
    obtain ⟨q1, q2⟩ := back j t e2 o2
    exact S.sep i j s t a p1 q1 o1 o2 (p2 ▸ z1) (q2 ▸ z2)
  · obtain ⟨h1, h2, h3⟩ := S.pn a o e
    refine ⟨h1, h2, fun i s q os => ?_⟩
    obtain ⟨p1, p2⟩ := back i s q os
    rw [← p2]
    exact h3 i s p1 os
theorem lcL_end {g : Tgt} {mt : M Bool} {me : M RV} {vs : List Nat} : ∀ (ds : List D) (E : Ev) (acc acc' : List D) (E' : Ev), lcL g mt me vs ds (wipeE E vs) acc = .ok acc' E' → ∃ E2, E' = wipeE E2 vs := by
  intro ds
  induction ds with
  | nil => intro E acc acc' E' h; cases h; exact ⟨E, rfl⟩
  | cons d ds ih =>
    intro E acc acc' E' h
    unfold lcL at h
    split at h
    · cases h
    · split at h
      · split at h
        · split at h
          · exact ih _ _ _ _ h
          · cases h
        · cases h
      · exact ih _ _ _ _ h
      · cases h
theorem lcL_noex {g : Tgt} {mt : M Bool} {me : M RV} {vs : List Nat} : ∀ (ds : List D) (E : Ev) (acc : List D) (x : Xc) (E' : Ev), lcL g mt me vs ds E acc ≠ .ex x E' := by
  intro ds
  induction ds with
  | nil => intro E acc x E' h; cases h
  | cons d ds ih =>
    intro E acc x E' h
    unfold lcL at h
    split at h
    · cases h
    · split at h
      · split at h
        · split at h
          · exact ih _ _ _ _ h
          · cases h
        · cases h
      · exact ih _ _ _ _ h
      · cases h
end
/-- the block's scope, as its own frame has it -/
def relabelS (sc1 sc0 : Scope) : Scope := { sc1 with names := sc1.names.map fun (n, k) => if (k == .free && sc0.kind == .function && sc0.names.lookup n == some .cell) then (n, .cell) else (n, k) }
theorem blkOk_1 {N : List Str} {sc0 sc1 sc2 : Scope} {own : List (Str × Nat)} {cl : List (Str × Addr)} {c : Addr} {env : Env} (he : env.scope = sc0) (h : blkC N (relabelS sc1 sc0) sc2 own = true) : BlkOk N (compEnvC sc1 cl c env).scope sc2 own := by
  subst he
  exact blkOk_by h
theorem blkOk_2 {N : List Str} {sc0 sc1 sc2 sc3 : Scope} {own : List (Str × Nat)} {cl cl' : List (Str × Addr)} {c c' : Addr} {env : Env} (he : env.scope = sc0) (h : blkC N (relabelS sc2 (relabelS sc1 sc0)) sc3 own = true) : BlkOk N (compEnvC sc2 cl' c' (compEnvC sc1 cl c env)).scope sc3 own := by
  subst he
  exact blkOk_by h
section
variable {C : Ctx} {B : Base} {W : WX} {X : Cx} {pos : Pos}
theorem mts_nil : PTs X [] (tT C B W tTrue) := ⟨fun pins s σ H Q I ⟨F, E, S, p⟩ => pts_nil.run pins s σ H Q I (p F H S (Same.refl F))⟩
theorem mts_one {c : Expr} {mt : M Bool} (h : PT X c (tT C B W mt)) : PTs X [c] (tT C B W mt) := pts_one h
theorem PE.ex {e : Expr} {m : M RV} (h : ∀ B, PE X e (tE C B W m)) : PE X e (fun σ H Q => ∃ B, tE C B W m σ H Q) := ⟨fun p s σ H Q I ⟨B, w⟩ => (h B).run p s σ H Q I w⟩
theorem PTs.ex {e : List Expr} {m : M Bool} (h : ∀ B, PTs X e (tT C B W m)) : PTs X e (fun σ H Q => ∃ B, tT C B W m σ H Q) := ⟨fun p s σ H Q I ⟨B, w⟩ => (h B).run p s σ H Q I w⟩
theorem PG.ex {e : Expr} {g : Tgt} {js : List Nat} (h : ∀ B, PG X e (tG C B js g)) : PG X e (fun v σ H Q => ∃ B, tG C B js g v σ H Q) := ⟨fun p s σ H v u Q I r ⟨B, w⟩ => (h B).run p s σ H v u Q I r w⟩
theorem wipe_upto {σ σ' : St} {js vs : List Nat} (u : Upto js σ σ') (h : ∀ j ∈ js, j ∈ vs) : L2.wipe σ' vs = L2.wipe σ vs := by
  have at_vs : ∀ (σ : St) (vs : List Nat) (j : Nat), j ∈ vs → (L2.wipe σ vs)[j]? = if j < σ.length then some none else none := by
    intro σ vs j hj
    induction vs with
    | nil => cases hj
    | cons v vs ih =>
      unfold L2.wipe
      rw [List.getElem?_set]
      split
      · rename_i hv; subst hv
        rw [wipe_length]
      · rename_i hv
        exact ih (by rcases List.mem_cons.mp hj with q | q; exact absurd q.symm hv; exact q)
  apply List.ext_getElem?
  intro j
  by_cases hj : j ∈ vs
  · rw [at_vs _ _ _ hj, at_vs _ _ _ hj, u.1]
  · rw [wipe_get hj, wipe_get hj, u.2 j fun z => hj (h j z)]
theorem wipe_wipe (σ : St) (vs : List Nat) : L2.wipe (L2.wipe σ vs) vs = L2.wipe σ vs := by
  refine wipe_upto (js := vs) ⟨wipe_length _ _, fun j hj => wipe_get hj⟩ fun _ z => z
theorem lc_go {σ : St} {H : Hp} {Q : VK} {g : Tgt} {js : List Nat} {mi : M (List D)} {mt : M Bool} {me : M RV} {vs : List Nat} (hjs : ∀ j ∈ js, j ∈ vs) (t : tE C B W (eLc mi g mt me vs) σ H Q) :
    tLc (tI C B W mi) (fun v σ H Q => ∃ B, tG C B js g v σ H Q) (fun σ H Q => ∃ B, tT C B WNo mt σ H Q) (fun σ H Q => ∃ B, tE C B WNo me σ H Q) vs σ H Q := by
  obtain ⟨F, E, S, p⟩ := t
  refine ⟨F, E, S, p.bind.mono (Same.refl F) fun ds E1 q J F1 H1 S1 st1 gv Dd hD => ?_⟩
  have S1' := S1
  have n0 : B.H0 Dd = none := S1.g.bs Dd hD
  have np : B.pin Dd = none := by
    cases z : B.pin Dd with
    | none => rfl
    | some w => have := (S1.pn Dd w z).1; rw [hD] at this; cases this
  have g1 : Grow NoB F1 H1 F1 (upd H1 Dd (.lst [])) := Grow.newO S1.fh hD
  have ap : Apart E1 σ Dd := fun i s e os z => by
    obtain ⟨a', d', y1, y2, _⟩ := S1.at e os
    rw [z] at y1; cases y1
    obtain ⟨u, hu⟩ := y2.tracked
    rw [hD] at hu; cases hu
  have S2 : Sim C (B.pinned Dd (.lst [])) F1 (upd H1 Dd (.lst [])) E1 σ := (S1.grow g1).topin upd_same (S1.fh.free hD) ap
  -- the end of the walk, from what is left of it
  refine ⟨fun i m H => i + m = ds.length ∧ ∃ (F2 : Hp) (E2 : Ev) (acc : List D) (vacc : List V), Sim C (B.pinned Dd (.lst vacc)) F2 H (wipeE E2 vs) (L2.wipe σ vs) ∧ Same F1 F2 ∧ RepL C F2 vacc acc ∧
      ∃ accE EE, lcL g mt me vs (ds.drop i) (wipeE E2 vs) acc = .ok accE EE ∧ kE C B F σ Q (.fr (.lst accE)) (restE E1 vs EE), ?_, ?_⟩
  · refine ⟨ds.length, Nat.zero_add _, F1, E1, [], [], S2.wipe vs, Same.refl F1, .nil, ?_⟩
    cases hl : lcL g mt me vs ds (wipeE E1 vs) [] with
    | stuck => rw [hl] at q; exact q.elim
    | ex x E2 => exact absurd hl (lcL_noex _ _ _ _ _)
    | ok accE E2 =>
      rw [hl] at q
      exact ⟨accE, E2, hl, q⟩
  · rintro i m H2 ⟨hm, F2, E2, acc, vacc, S2, st2, rl, accE, EE, hl, hq⟩
    obtain ⟨y1, y2⟩ := gv F2 H2 st2 S2.fh
    by_cases hlt : i < ds.length
    · have hd : ds.drop i = ds[i] :: ds.drop (i + 1) := List.drop_eq_getElem_cons hlt
      rw [hd] at hl
      obtain ⟨z1, z2⟩ := y1 i ds[i] (List.getElem?_eq_getElem hlt)
      unfold lcL at hl
      refine .inr ⟨z1, fun H' => ∃ (F3 : Hp) (E3 : Ev) (acc : List D) (vacc : List V), Sim C (B.pinned Dd (.lst vacc)) F3 H' (wipeE E3 vs) (L2.wipe σ vs) ∧ Same F1 F3 ∧ RepL C F3 vacc acc ∧
          ∃ accE EE, lcL g mt me vs (ds.drop (i + 1)) (wipeE E3 vs) acc = .ok accE EE ∧ kE C B F σ Q (.fr (.lst accE)) (restE E1 vs EE), fun H' h' => ⟨m - 1, by omega, by omega, h'⟩, fun x H' y => ?_⟩
      obtain ⟨F3, gr, r3⟩ := z2 x H' y
      have S3 := S2.grow gr
      cases hgd : g ds[i] (wipeE E2 vs) with
      | none => rw [hgd] at hl; cases hl
      | some E3 =>
        rw [hgd] at hl
        dsimp only at hl
        refine ⟨_, F3, wipeE E2 vs, ds[i], E3, S3, r3, hgd, fun σ4 F4 H4 S4 st4 u4 => ?_⟩
        have hw : L2.wipe σ4 vs = L2.wipe σ vs := by rw [wipe_upto u4 hjs, wipe_wipe]
        refine ⟨hw, ?_⟩
        have st24 : Same F2 F4 := gr.fs.trans st4
        refine ⟨_, F4, E3, S4, ?_⟩
        cases ht : mt E3 with
        | stuck => rw [ht] at hl; cases hl
        | ex x E4 => rw [ht] at hl; cases hl
        | ok b E4 =>
          rw [ht] at hl
          cases b with
          | false =>
            intro F5 H5 S5 st5
            dsimp only at hl
            rw [if_neg Bool.false_ne_true]
            refine ⟨F5, E4, acc, vacc, ?_, st2.trans (st24.trans st5), rl.mono (st24.trans st5), accE, EE, hl, hq⟩
            rw [← hw]
            exact S5.wipe vs
          | true =>
            intro F5 H5 S5 st5
            dsimp only at hl
            rw [if_pos rfl]
            refine ⟨_, F5, E4, S5, ?_⟩
            cases he : me E4 with
            | stuck => rw [he] at hl; cases hl
            | ex x E5 => rw [he] at hl; cases hl
            | ok r E5 =>
              rw [he] at hl
              dsimp only at hl
              split at hl
              · rename_i hz
                intro v F6 H6 S6 st6 rr
                obtain ⟨F7, S7, st7, r7⟩ := S6.toSh rr
                obtain ⟨_, hH, hF, hap⟩ := S7.unpin np
                have st27 : Same F2 F7 := st24.trans (st5.trans (st6.trans st7))
                refine ⟨vacc, hH, by rw [rl.length]; exact hz, F7, E5, acc ++ [r.d], vacc ++ [v], ?_, st2.trans st27, (rl.mono st27).append (.cons r7 .nil), accE, EE, hl, hq⟩
                have S8 := S7.repin (o' := .lst (vacc ++ [v])) np n0
                rw [← hw]
                exact S8.wipe vs
              · cases hl
    · have e : i = ds.length := by omega
      subst e
      rw [List.drop_length] at hl
      cases hl
      refine .inl ⟨y2, ?_⟩
      obtain ⟨S3, hH, hF, hap⟩ := S2.unpin np
      have S4 := Sim.rest S1' S3 st2
      refine hq (.ref Dd) F2 H2 S4 (st1.trans st2) ⟨Dd, rfl, ⟨hF, vacc, hH, rl⟩, n0, fun i s e os z => ?_, np⟩
      rcases restE_get e with rfl | ⟨h1, h2⟩
      · unfold keepSh at os
        split at os <;> cases os
      · exact hap i s h2 os (by rw [wipe_get h1]; exact z)
theorem me_lc {elt tg iter : Expr} {ifs : List Expr} {scope : Scope} (own : List (Str × Nat)) {g : Tgt} {js : List Nat} {mi : M (List D)} {mt : M Bool} {me : M RV} (hc : X.calm = true) (hN : X.N.Nodup) (hi : PI X tg iter (tI C B W mi)) (ok : BlkOk X.N X.env.scope scope own)
    (hg : ∀ (s : Shared) (H : Hp) (c : Addr) (cl : List (Str × Addr)) (fp : List Addr) (B : Base), PG (X.blk s H scope (compEnvC scope cl c X.env) fp) tg (tG C B js g)) (ht : ∀ (s : Shared) (H : Hp) (c : Addr) (cl : List (Str × Addr)) (fp : List Addr) (B : Base), PTs (X.blk s H scope (compEnvC scope cl c X.env) fp) ifs (tT C B WNo mt))
    (he : ∀ (s : Shared) (H : Hp) (c : Addr) (cl : List (Str × Addr)) (fp : List Addr) (B : Base), PE (X.blk s H scope (compEnvC scope cl c X.env) fp) elt (tE C B WNo me)) (hjs : ∀ j ∈ js, j ∈ own.map (·.2) := by decide) (hs : ∀ x, foldedSetIterable iter X.env x = pure x := by intro _; rfl) :
    PE X (.ListComp elt [⟨tg, iter, ifs, 0⟩] scope pos) (tE C B W (eLc mi g mt me (own.map (·.2)))) :=
  PE.imp (pe_lc hc hN hi ok (fun s H c cl fp => PG.ex (hg s H c cl fp)) (fun s H c cl fp => PTs.ex (ht s H c cl fp)) (fun s H c cl fp => PE.ex (he s H c cl fp)) hs) fun σ H Q t => lc_go hjs t
theorem ms_setLc {i : Nat} {y : Str} {py spos : Pos} {elt tg iter : Expr} {ifs : List Expr} {scope : Scope} (own : List (Str × Nat)) {g : Tgt} {js : List Nat} {mi : M (List D)} {mt : M Bool} {me : M RV} (hc : X.calm = true) (hN : X.N.Nodup) (hy : X.N[i]? = some y) (hyl : X.env.scope.names.lookup y = some .local)
    (hsw : swapsWith (.ListComp elt [⟨tg, iter, ifs, 0⟩] scope pos) (some (.Name y py)) spos.line X.env = pure true) (hi : PI X tg iter (tI C B W mi)) (ok : BlkOk X.N X.env.scope scope own)
    (hg : ∀ (s : Shared) (H : Hp) (c : Addr) (cl : List (Str × Addr)) (fp : List Addr) (B : Base), PG (X.blk s H scope (compEnvC scope cl c X.env) fp) tg (tG C B js g)) (ht : ∀ (s : Shared) (H : Hp) (c : Addr) (cl : List (Str × Addr)) (fp : List Addr) (B : Base), PTs (X.blk s H scope (compEnvC scope cl c X.env) fp) ifs (tT C B WNo mt))
    (he : ∀ (s : Shared) (H : Hp) (c : Addr) (cl : List (Str × Addr)) (fp : List Addr) (B : Base), PE (X.blk s H scope (compEnvC scope cl c X.env) fp) elt (tE C B WNo me)) (hjs : ∀ j ∈ js, j ∈ own.map (·.2) := by decide) (hs : ∀ x, foldedSetIterable iter X.env x = pure x := by intro _; rfl) :
    PS X (.Assign [.Name y py] (.ListComp elt [⟨tg, iter, ifs, 0⟩] scope pos) spos) (tS C B W (sAsg i (eLc mi g mt me (own.map (·.2))))) := by
  refine PS.imp (ps_setLc hc hN hy hyl hsw hi ok (fun s H c cl fp => PG.ex (hg s H c cl fp)) (fun s H c cl fp => PTs.ex (ht s H c cl fp)) (fun s H c cl fp => PE.ex (he s H c cl fp)) hs) fun D σ H ⟨F, E, S, p⟩ => ?_
  refine lc_go hjs (Q := fun x H1 => gName i x σ H1 D.nx) (B := B) (W := W) ?_
  refine sE_go S p fun r E1 v F1 H1 S1 st1 rr p1 => ?_
  have q := setR i S1 rr
  cases r with
  | sh d => exact p1 _ F1 H1 q st1
  | fr d => exact p1 _ F1 H1 q st1
end
end MM

/-! MM: built-in operations by values. -/
namespace MM
open PySem PySem.Spec PyProof.Rows L2
section
variable {C : Ctx} {X : Cx}
theorem Rep.int_inv {F : Hp} {v : V} {i : Int} (r : Rep C F v (.int i)) : v = .int i := by cases r; rfl
/-! ### arithmetic -/
def mulOk (i j : Int) : Bool := decide (-(2 ^ 64) < i ∧ i < 2 ^ 64) || decide (-(2 ^ 64) < j ∧ j < 2 ^ 64) || decide (i.natAbs.log2 + j.natAbs.log2 < 1000000)
theorem mulOk_ok {i j : Int} (h : mulOk i j = true) : IntMulOk i j := by
  unfold mulOk at h
  simp only [Bool.or_eq_true, decide_eq_true_eq] at h
  rcases h with (h | h) | h
  · exact CMul.ok (.inl h)
  · exact CMul.ok (.inr h)
  · exact CMulW.ok h
theorem op_mulX : OpR X (binaryOp .Mult) (rI IntMulOk fun i j => .int (i * j)) := opI fun _ _ _ _ _ _ _ hc q => mul_int q hc
def fdivOk (j : Int) : Bool := decide (j ≠ 0 ∧ j.natAbs < 1073741824) || decide (0 < j ∧ j.natAbs.log2 < 9000)
def CDivX (_ j : Int) : Prop := fdivOk j = true
theorem op_fdivX : OpR X (binaryOp .FloorDiv) (rI CDivX fun i j => .int (i.fdiv j)) := by
  intro pins s σ H x y v u Q I rx ry h
  obtain ⟨i, j, rfl, rfl, hc, q⟩ := h
  unfold CDivX fdivOk at hc
  simp only [Bool.or_eq_true, decide_eq_true_eq] at hc
  rcases hc with hc | hc
  · exact op_fdivN pins s σ H _ _ v u Q I rx ry ⟨i, j, rfl, rfl, hc, q⟩
  · refine op_fdivW pins s σ H _ _ v u Q I rx ry ⟨i, j, rfl, rfl, hc, ?_⟩
    show Q (.int (i / j)) H
    rw [← Int.fdiv_eq_ediv_of_nonneg i (Int.le_of_lt hc.1)]
    exact q
def fAdd (a b : D) : Option RV := match a, b with
  | .int i, .int j => some (.sh (.int (i + j)))
  | .tup xs, .tup ys => if xs.length + ys.length ≤ sizeLine then some (.sh (.tup (xs ++ ys))) else none
  | .lst xs, .lst ys => if xs.length + ys.length ≤ sizeLine then some (.fr (.lst (xs ++ ys))) else none
  | .str x, .str y => if x.length + y.length ≤ sizeLine then some (.sh (.str (x ++ y))) else none
  | _, _ => none
def rAddX (K : PySem.W.Frag) : R2 := fun x y H Q => rI0 (fun i j => .int (i + j)) x y H Q ∨ rCatA K x y H Q ∨ rCat x y H Q ∨ (∃ i j, x = .str i ∧ y = .str j ∧ i.length + j.length ≤ sizeLine ∧ Q (.str (i ++ j)) H)
theorem op_addX : OpR X (binaryOp .Add) (rAddX X.K) := op_add.or (op_catA.or (op_cat.or op_add_str))
theorem p_add (hK : X.K = C.K) : Pure2 C (rAddX X.K) fAdd := by
  intro F H x y dx dy R Q st rx ry e q
  unfold fAdd at e
  split at e
  · cases e; cases rx; cases ry
    exact .inl ⟨_, _, rfl, rfl, NewR.same st (.int _) q⟩
  · split at e
    · rename_i hl
      cases e
      cases rx with
      | @tup a vs ds hs hr =>
        cases ry with
        | @tup b ws es hs2 hr2 =>
          refine .inr (.inl ⟨a, b, vs, ws, rfl, rfl, by rw [hK]; exact SqT_mono st hs, by rw [hK]; exact SqT_mono st hs2, by rw [hr.length, hr2.length]; exact hl, fun z => ?_, fun z z2 => ?_, fun _ _ p hp => ?_⟩)
          · subst z; cases hr
            exact NewR.same st (.tup hs2 hr2) q
          · subst z2; cases hr2
            rw [List.append_nil] at q
            exact NewR.same st (.tup hs hr) q
          · obtain ⟨g, n⟩ := newT st (hr.append hr2) hp
            exact q _ _ _ g n
    · cases e
  · split at e
    · rename_i hl
      cases e
      cases rx with
      | @lst a vs ds hs hr =>
        cases ry with
        | @lst b ws es hs2 hr2 =>
          refine .inr (.inr (.inl ⟨a, b, vs, ws, rfl, rfl, st _ _ hs, st _ _ hs2, by rw [hr.length, hr2.length]; exact hl, fun p hp => ?_⟩))
          obtain ⟨g, n⟩ := newL st (hr.append hr2) hp
          exact q _ _ _ g n
    · cases e
  · split at e
    · rename_i hl
      cases e; cases rx; cases ry
      exact .inr (.inr (.inr ⟨_, _, rfl, rfl, hl, NewR.same st (.str _) q⟩))
    · cases e
  · cases e
def fInt2 (c : Int → Int → Bool) (g : Int → Int → Int) (a b : D) : Option RV := match a, b with
  | .int i, .int j => if c i j = true then some (.sh (.int (g i j))) else none
  | _, _ => none
theorem p_int2 {Cc : Int → Int → Prop} {c : Int → Int → Bool} {g : Int → Int → Int} (h : ∀ i j, c i j = true → Cc i j) : Pure2 C (rI Cc fun i j => .int (g i j)) (fInt2 c g) := by
  intro F H x y dx dy R Q st rx ry e q
  unfold fInt2 at e
  split at e
  · split at e
    · rename_i hc
      cases e; cases rx; cases ry
      exact ⟨_, _, rfl, rfl, h _ _ hc, NewR.same st (.int _) q⟩
    · cases e
  · cases e
abbrev fSub := fInt2 (fun _ _ => true) fun i j => i - j
abbrev fMulI := fInt2 mulOk fun i j => i * j
abbrev fFdiv := fInt2 (fun _ j => fdivOk j) Int.fdiv
abbrev fMod := fInt2 (fun _ j => decide (j ≠ 0)) Int.fmod
theorem op_subX : OpR X (binaryOp .Sub) (rI (fun _ _ => True) fun i j => .int (i - j)) := opI fun _ _ _ _ _ _ _ _ q => sub_int q
theorem p_sub : Pure2 C (rI (fun _ _ => True) fun i j => .int (i - j)) fSub := p_int2 fun _ _ _ => trivial
theorem p_mul : Pure2 C (rI IntMulOk fun i j => .int (i * j)) fMulI := p_int2 fun _ _ h => mulOk_ok h
theorem p_fdiv : Pure2 C (rI CDivX fun i j => .int (i.fdiv j)) fFdiv := p_int2 fun _ _ h => h
theorem p_mod : Pure2 C (rI (fun _ j => j ≠ 0) fun i j => .int (i.fmod j)) fMod := p_int2 fun _ _ h => of_decide_eq_true h
def fNeg (a : D) : Option RV := match a with
  | .int i => some (.sh (.int (-i)))
  | _ => none
theorem p_neg : Pure1 C (rU fun i => .int (-i)) fNeg := by
  intro F H x dx R Q st rx e q
  unfold fNeg at e
  split at e
  · cases e; cases rx
    exact ⟨_, rfl, NewR.same st (.int _) q⟩
  · cases e
/-! ### comparisons -/
def cLt (a b : D) : Option Bool := match a, b with
  | .int i, .int j => some (decide (i < j))
  | _, _ => none
def cLe (a b : D) : Option Bool := match a, b with
  | .int i, .int j => some (decide (i ≤ j))
  | _, _ => none
def cGt (a b : D) : Option Bool := match a, b with
  | .int i, .int j => some (decide (j < i))
  | _, _ => none
def cGe (a b : D) : Option Bool := match a, b with
  | .int i, .int j => some (decide (j ≤ i))
  | _, _ => none
theorem p_lt : PureC C (rI0 fun i j => .bl (decide (i < j))) cLt := by
  intro F H x y dx dy k Q st rx ry e q
  unfold cLt at e
  split at e
  · cases e; cases rx; cases ry; exact ⟨_, _, rfl, rfl, q⟩
  · cases e
theorem p_le : PureC C (rI0 fun i j => .bl (decide (i ≤ j))) cLe := by
  intro F H x y dx dy k Q st rx ry e q
  unfold cLe at e
  split at e
  · cases e; cases rx; cases ry; exact ⟨_, _, rfl, rfl, q⟩
  · cases e
theorem p_gt : PureC C (rI0 fun i j => .bl (decide (j < i))) cGt := by
  intro F H x y dx dy k Q st rx ry e q
  unfold cGt at e
  split at e
  · cases e; cases rx; cases ry; exact ⟨_, _, rfl, rfl, q⟩
  · cases e
theorem p_ge : PureC C (rI0 fun i j => .bl (decide (j ≤ i))) cGe := by
  intro F H x y dx dy k Q st rx ry e q
  unfold cGe at e
  split at e
  · cases e; cases rx; cases ry; exact ⟨_, _, rfl, rfl, q⟩
  · cases e
mutual
def toPy : D → Option PyData
  | .non => some .none
  | .bl b => some (.bool b)
  | .int i => some (.int i)
  | .str x => some (.str x)
  | .tup xs => (toPyL xs).map .tuple
  | .lst xs => (toPyL xs).map .list
  | _ => none
def toPyL : List D → Option (List PyData)
  | [] => some []
  | d :: ds => match toPy d, toPyL ds with
    | some p, some ps => some (p :: ps)
    | _, _ => none
end
mutual
theorem dp_of {K : PySem.W.Frag} (hK : K = C.K) {F H : Hp} (st : Same F H) : ∀ (d : D) (v : V) (p : PyData), Rep C F v d → toPy d = some p → Dp K H v p
  | .non, _, _, r, e => by cases r; simp only [toPy] at e; cases e; exact .non
  | .bl b, _, _, r, e => by cases r; simp only [toPy] at e; cases e; exact .bl b
  | .int i, _, _, r, e => by cases r; simp only [toPy] at e; cases e; exact .int i
  | .str x, _, _, r, e => by cases r; simp only [toPy] at e; cases e; exact .str x
  | .tup xs, _, _, r, e => by
    simp only [toPy] at e
    obtain ⟨ps, e1, rfl⟩ := Option.map_eq_some_iff.mp e
    cases r with
    | tup hs hr => exact .tup (by rw [hK]; exact SqT_mono st hs) (dpL_of hK st xs _ ps hr e1)
  | .lst xs, _, _, r, e => by
    simp only [toPy] at e
    obtain ⟨ps, e1, rfl⟩ := Option.map_eq_some_iff.mp e
    cases r with
    | lst hs hr => exact .lst (SqL.of (st _ _ hs)) (dpL_of hK st xs _ ps hr e1)
  | .gl _, _, _, _, e => by simp only [toPy] at e; cases e
  | .ty _, _, _, _, e => by simp only [toPy] at e; cases e
  | .scr _, _, _, _, e => by simp only [toPy] at e; cases e
  | .obj _ _, _, _, _, e => by simp only [toPy] at e; cases e
  | .dic _, _, _, _, e => by simp only [toPy] at e; cases e
theorem dpL_of {K : PySem.W.Frag} (hK : K = C.K) {F H : Hp} (st : Same F H) : ∀ (ds : List D) (vs : List V) (ps : List PyData), RepL C F vs ds → toPyL ds = some ps → DpAll K H vs ps
  | [], _, _, r, e => by cases r; simp only [toPyL] at e; cases e; exact .nil
  | d :: ds, _, _, r, e => by
    simp only [toPyL] at e
    cases e1 : toPy d with
    | none => rw [e1] at e; cases e
    | some p =>
      cases e2 : toPyL ds with
      | none => rw [e1, e2] at e; cases e
      | some ps =>
        rw [e1, e2] at e; cases e
        cases r with
        | cons r1 r2 => exact .cons (dp_of hK st d _ p r1 e1) (dpL_of hK st ds _ ps r2 e2)
end
def cEq (a b : D) : Option Bool := match toPy a, toPy b with
  | some p, some q => if SeqAt.shaped p = true ∧ SeqAt.shaped q = true then some (PyData.eqv p q) else none
  | _, _ => none
def cNe (a b : D) : Option Bool := (cEq a b).map not
theorem cEq_inv {a b : D} {k : Bool} (h : cEq a b = some k) : ∃ p q, toPy a = some p ∧ toPy b = some q ∧ SeqAt.shaped p = true ∧ SeqAt.shaped q = true ∧ k = PyData.eqv p q := by
  unfold cEq at h
  split at h
  · split at h
    · rename_i hs; cases h; exact ⟨_, _, by assumption, by assumption, hs.1, hs.2, rfl⟩
    · cases h
  · cases h
theorem p_eq (hK : X.K = C.K) : PureC C (rEqD X.K) cEq := by
  intro F H x y dx dy k Q st rx ry e q
  obtain ⟨p, p', e1, e2, s1, s2, rfl⟩ := cEq_inv e
  exact ⟨p, p', dp_of hK st dx x p rx e1, dp_of hK st dy y p' ry e2, s1, s2, q⟩
theorem p_ne (hK : X.K = C.K) : PureC C (rNeD X.K) cNe := by
  intro F H x y dx dy k Q st rx ry e q
  unfold cNe at e
  obtain ⟨b, e0, rfl⟩ := Option.map_eq_some_iff.mp e
  obtain ⟨p, p', e1, e2, s1, s2, rfl⟩ := cEq_inv e0
  exact ⟨p, p', dp_of hK st dx x p rx e1, dp_of hK st dy y p' ry e2, s1, s2, q⟩
/-- x is None -/
def cIsN (a b : D) : Option Bool := match b with
  | .non => (match a with | .non => some true | _ => some false)
  | _ => none
def cNotN (a b : D) : Option Bool := (cIsN a b).map not
theorem non_iff {F : Hp} {x : V} {d : D} (r : Rep C F x d) : decide (x = .non) = (match d with | .non => true | _ => false) := by
  cases r <;> rfl
theorem p_isN : PureC C (fun x y H Q => y = .non ∧ Q (.bl (decide (x = .non))) H) cIsN := by
  intro F H x y dx dy k Q st rx ry e q
  unfold cIsN at e
  split at e
  · cases ry
    refine ⟨rfl, ?_⟩
    rw [non_iff rx]
    split at e <;> cases e
    · exact q
    · rename_i h
      split
      · exact absurd rfl h
      · exact q
  · cases e
theorem p_notN : PureC C (fun x y H Q => y = .non ∧ Q (.bl (!decide (x = .non))) H) cNotN := by
  intro F H x y dx dy k Q st rx ry e q
  unfold cNotN at e
  obtain ⟨b, e0, rfl⟩ := Option.map_eq_some_iff.mp e
  unfold cIsN at e0
  split at e0
  · cases ry
    refine ⟨rfl, ?_⟩
    rw [non_iff rx]
    split at e0 <;> cases e0
    · exact q
    · rename_i h
      split
      · exact absurd rfl h
      · exact q
  · cases e0
/-! ### in, of flat things -/
def flatD : D → Bool
  | .non => true
  | .bl _ => true
  | .int _ => true
  | .str _ => true
  | _ => false
def eqD : D → D → Bool
  | .non, .non => true
  | .bl a, .bl b => a == b
  | .bl a, .int b => (if a then 1 else 0) == b
  | .int a, .bl b => a == (if b then 1 else 0)
  | .int a, .int b => a == b
  | .str a, .str b => a == b
  | _, _ => false
def elems : D → Option (List D)
  | .lst ds => some ds
  | .tup ds => some ds
  | _ => none
def cIn (a b : D) : Option Bool := match elems b with
  | some ds => if flatD a = true ∧ ds.all flatD = true then some (ds.any fun y => eqD y a) else none
  | none => none
def cNotIn (a b : D) : Option Bool := (cIn a b).map not
theorem flat_of {F : Hp} {x : V} {d : D} (r : Rep C F x d) (h : flatD d = true) : flatV x = true := by
  cases r <;> first | rfl | cases h
theorem flats_of {F : Hp} : ∀ {vs : List V} {ds : List D}, RepL C F vs ds → ds.all flatD = true → vs.all flatV = true
  | _, _, .nil, _ => rfl
  | _, _, .cons r rr, h => by
    rw [List.all_cons, Bool.and_eq_true] at h
    rw [List.all_cons, flat_of r h.1, flats_of rr h.2]
    rfl
theorem eq_of {F : Hp} {x y : V} {d e : D} (r : Rep C F x d) (r2 : Rep C F y e) (h : flatD d = true) (h2 : flatD e = true) : eqV y x = eqD e d := by
  cases r <;> first | (cases h; done) | (cases r2 <;> first | (cases h2; done) | rfl)
theorem in_of {F : Hp} {x : V} {d : D} (r : Rep C F x d) (h : flatD d = true) : ∀ {vs : List V} {ds : List D}, RepL C F vs ds → ds.all flatD = true → inV x vs = ds.any fun y => eqD y d
  | _, _, .nil, _ => rfl
  | _, _, .cons r2 rr, h2 => by
    rw [List.all_cons, Bool.and_eq_true] at h2
    have := in_of r h rr h2.2
    unfold inV at this ⊢
    rw [List.any_cons, List.any_cons, this, eq_of r r2 h h2.1]
theorem elems_of {F H : Hp} {x : V} {d : D} {ds : List D} (st : Same F H) (r : Rep C F x d) (h : elems d = some ds) : ∃ p vs, x = .ref p ∧ (SqL C.K H p vs ∨ SqT C.K H p vs) ∧ RepL C F vs ds := by
  cases r <;> first | (cases h; done) | skip
  · cases h
    rename_i hs hr
    exact ⟨_, _, rfl, .inr (SqT_mono st hs), hr⟩
  · cases h
    rename_i hs hr
    exact ⟨_, _, rfl, .inl (SqL.of (st _ _ hs)), hr⟩
theorem cIn_inv {a b : D} {k : Bool} (h : cIn a b = some k) : ∃ ds, elems b = some ds ∧ flatD a = true ∧ ds.all flatD = true ∧ k = ds.any fun y => eqD y a := by
  unfold cIn at h
  split at h
  · split at h
    · rename_i hs; cases h; exact ⟨_, by assumption, hs.1, hs.2, rfl⟩
    · cases h
  · cases h
theorem p_in (hK : X.K = C.K) : PureC C (rIn X.K false) cIn := by
  intro F H x y dx dy k Q st rx ry e q
  obtain ⟨ds, e1, f1, f2, rfl⟩ := cIn_inv e
  obtain ⟨p, vs, rfl, hs, hr⟩ := elems_of st ry e1
  refine ⟨p, vs, rfl, by rw [hK]; exact hs, flat_of rx f1, flats_of hr f2, ?_⟩
  rw [in_of rx f1 hr f2]
  exact q
theorem p_notIn (hK : X.K = C.K) : PureC C (rIn X.K true) cNotIn := by
  intro F H x y dx dy k Q st rx ry e q
  unfold cNotIn at e
  obtain ⟨b, e0, rfl⟩ := Option.map_eq_some_iff.mp e
  obtain ⟨ds, e1, f1, f2, rfl⟩ := cIn_inv e0
  obtain ⟨p, vs, rfl, hs, hr⟩ := elems_of st ry e1
  refine ⟨p, vs, rfl, by rw [hK]; exact hs, flat_of rx f1, flats_of hr f2, ?_⟩
  rw [in_of rx f1 hr f2]
  exact q
/-! ### subscripts, slices -/
def fIx (a b : D) : Option RV := match elems a, b with
  | some ds, .int k => (atI ds k).map .sh
  | _, _ => none
theorem atI_rep {F : Hp} {vs : List V} {ds : List D} {k : Int} {d : D} (r : RepL C F vs ds) (h : atI ds k = some d) : ∃ v, atI vs k = some v ∧ Rep C F v d := by
  unfold atI at h ⊢
  obtain ⟨n, h1, h2⟩ := Option.bind_eq_some_iff.mp h
  obtain ⟨v, h3, h4⟩ := r.get h2
  refine ⟨v, ?_, h4⟩
  rw [r.length, h1]
  exact h3
theorem p_ix (hK : X.K = C.K) : Pure2 C (rIx X.K) fIx := by
  intro F H x y dx dy R Q st rx ry e q
  unfold fIx at e
  split at e
  · rename_i ds k e1
    obtain ⟨d, e2, rfl⟩ := Option.map_eq_some_iff.mp e
    cases ry
    obtain ⟨p, vs, rfl, hs, hr⟩ := elems_of st rx e1
    obtain ⟨v, h1, h2⟩ := atI_rep hr e2
    rcases hs with hs | hs
    · exact .inl ⟨p, vs, k, v, rfl, rfl, by rw [hK]; exact hs, h1, NewR.same st h2 q⟩
    · exact .inr (.inl ⟨p, vs, k, v, rfl, rfl, by rw [hK]; exact hs, h1, NewR.same st h2 q⟩)
  · cases e
def cutD (xs : List D) (lo hi : Option Int) : List D := (xs.drop (HT.sIx xs.length 0 lo)).take (HT.sIx xs.length xs.length hi - HT.sIx xs.length 0 lo)
theorem cut_rep {F : Hp} {vs : List V} {ds : List D} (r : RepL C F vs ds) (lo hi : Option Int) : RepL C F (cutV vs lo hi) (cutD ds lo hi) := by
  unfold cutV cutD
  rw [r.length]
  exact (r.drop _).take _
theorem cutD_whole {ds : List D} {lo hi : Option Int} (h : HT.sIx ds.length 0 lo = 0 ∧ HT.sIx ds.length ds.length hi = ds.length) : cutD ds lo hi = ds := by
  unfold cutD
  rw [h.1, h.2, List.drop_zero, Nat.sub_zero, List.take_length]
/-- a[lo:hi] -/
def fSl (a : D) (lo hi : Option Int) : Option RV := match a with
  | .tup ds => some (.sh (.tup (cutD ds lo hi)))
  | .lst ds => some (.fr (.lst (cutD ds lo hi)))
  | .scr ds => some (.fr (.lst (cutD ds lo hi)))
  | _ => none
def optM (o : Option (M RV)) : M (Option Int) := fun E => match o with
  | none => .ok none E
  | some m => (m E).bind fun r E1 => match r.d with
    | .int i => .ok (some i) E1
    | _ => .stuck
def eSl (ma : M RV) (lo hi : Option (M RV)) : M RV := fun E => (ma E).bind fun a E1 => (optM lo E1).bind fun l E2 => (optM hi E2).bind fun h E3 => liftO (fSl a.d l h) E3
end
section
variable {C : Ctx} {B : Base} {W : WX} {X : Cx} {pos p2 : Pos} {a : Expr} {ma : M RV} {lo hi : Option Expr} {ml mh : Option (M RV)}
def tO (C : Ctx) (B : Base) (W : WX) (m : Option (M RV)) : TO := fun σ H Q => ∃ F E, Sim C B F H E σ ∧ Post C B W F σ (fun o E' => ∀ F' H', Sim C B F' H' E' σ → Same F F' → Q o H') (optM m E)
theorem mo_none : PO X none (tO C B W none) := ⟨fun pins s σ H Q I ⟨F, E, S, p⟩ => po_none.run pins s σ H Q I (p F H S (Same.refl F))⟩
theorem mo_some (h : PE X a (tE C B W ma)) : PO X (some a) (tO C B W (some ma)) := ⟨fun pins s σ H Q I ⟨F, E, S, p⟩ => (po_some h).run pins s σ H Q I (by
  refine tE_go S p fun r E1 v F1 H1 S1 st1 r1 p1 => ?_
  cases hd : r.d with
  | int i => rw [hd] at p1 r1; cases r1; exact ⟨i, rfl, p1 F1 H1 S1 st1⟩
  | _ => rw [hd] at p1; exact p1.elim)⟩
theorem tO_go {m : Option (M RV)} {α : Type} {K : α → Ev → Prop} {f : Option Int → Ev → Out α} {Q : Option Int → Hp → Prop} {F H : Hp} {E : Ev} {σ : St} (S : Sim C B F H E σ) (p : Post C B W F σ K ((optM m E).bind f))
    (h : ∀ (k : Option Int) (E1 : Ev) (F1 H1 : Hp), Sim C B F1 H1 E1 σ → Same F F1 → Post C B W F1 σ K (f k E1) → Q k H1) : tO C B W m σ H Q :=
  ⟨F, E, S, p.bind.mono (Same.refl F) fun k E1 q F1 H1 S1 st => h k E1 F1 H1 S1 st (q.mono st fun _ _ z => z)⟩
theorem me_sl (hK : X.K = C.K) (ha : PE X a (tE C B W ma)) (hl : PO X lo (tO C B W ml)) (hh : PO X hi (tO C B W mh)) : PE X (.Subscript a (.Slice lo hi none p2) pos) (tE C B W (eSl ma ml mh)) := by
  refine PE.imp (pe_slice (sl_list.or sl_tupA) ha hl hh) fun σ H Q ⟨F, E, S, p⟩ => ?_
  refine tE_go S p fun ra E1 x F1 H1 S1 st1 r1 p1 => ?_
  refine tO_go S1 p1 fun l E2 F2 H2 S2 st2 p2 => ?_
  refine tO_go S2 p2 fun h E3 F3 H3 S3 st3 p3 => ?_
  obtain ⟨R, e, q⟩ := kE_new S3 (st1.trans (st2.trans st3)) p3
  have r3 := r1.mono (st2.trans st3)
  cases hd : ra.d with
  | tup ds =>
    rw [hd] at e r3; cases e
    cases r3 with
    | @tup a vs ds hs hr =>
      refine .inr ⟨a, vs, rfl, by rw [hK]; exact SqT_mono S3.fh hs, fun hw => ?_, fun _ p hp => ?_⟩
      · rw [hr.length] at hw
        rw [cutD_whole hw] at q
        exact NewR.same S3.fh (.tup hs hr) q
      · obtain ⟨g, n⟩ := newT S3.fh (cut_rep hr l h) hp
        exact q _ _ _ g n
  | lst ds =>
    rw [hd] at e r3; cases e
    cases r3 with
    | @lst a vs ds hs hr =>
      refine .inl ⟨a, vs, rfl, SqL.of (S3.fh _ _ hs), fun p hp => ?_⟩
      obtain ⟨g, n⟩ := newL S3.fh (cut_rep hr l h) hp
      exact q _ _ _ g n
  | scr ds =>
    rw [hd] at e r3; cases e
    cases r3 with
    | @scr a vs ds hs hr =>
      refine .inl ⟨a, vs, rfl, by rw [hK]; exact S3.fh.seq hs, fun p hp => ?_⟩
      obtain ⟨g, n⟩ := newL S3.fh (cut_rep hr l h) hp
      exact q _ _ _ g n
  | _ => rw [hd] at e; cases e
end
section
variable {C : Ctx} {X : Cx}
/-! ### calls -/
def fAbs (ds : List D) : Option RV := match ds with
  | [.int i] => some (.sh (.int (if i < 0 then -i else i)))
  | _ => none
theorem n_abs : PureN C (fun xs H Q => ∃ i, xs = [.int i] ∧ Q (.int (if i < 0 then -i else i)) H) fAbs := by
  intro F H xs ds R Q st r e q
  unfold fAbs at e
  split at e
  · cases e
    cases r with
    | cons r rr => cases rr; cases r; exact ⟨_, rfl, NewR.same st (.int _) q⟩
  · cases e
def fInt1 (ds : List D) : Option RV := match ds with
  | [.int i] => some (.sh (.int i))
  | [.bl b] => some (.sh (.int (if b then 1 else 0)))
  | _ => none
theorem n_int1 : PureN C (fun xs H Q => (∃ i, xs = [.int i] ∧ Q (.int i) H) ∨ ∃ k, xs = [.bl k] ∧ Q (.int (if k then 1 else 0)) H) fInt1 := by
  intro F H xs ds R Q st r e q
  unfold fInt1 at e
  split at e
  · cases e
    cases r with
    | cons r rr => cases rr; cases r; exact .inl ⟨_, rfl, NewR.same st (.int _) q⟩
  · cases e
    cases r with
    | cons r rr => cases rr; cases r; exact .inr ⟨_, rfl, NewR.same st (.int _) q⟩
  · cases e
def fMin2 (ds : List D) : Option RV := match ds with
  | [.int i, .int j] => some (.sh (.int (if j < i then j else i)))
  | _ => none
theorem n_min2 : PureN C (fun xs H Q => ∃ i j, xs = [.int i, .int j] ∧ Q (.int (if j < i then j else i)) H) fMin2 := by
  intro F H xs ds R Q st r e q
  unfold fMin2 at e
  split at e
  · cases e
    cases r with
    | cons r rr => cases rr with
      | cons r2 rr => cases rr; cases r; cases r2; exact ⟨_, _, rfl, NewR.same st (.int _) q⟩
  · cases e
def fMax2 (ds : List D) : Option RV := match ds with
  | [.int i, .int j] => some (.sh (.int (if j > i then j else i)))
  | _ => none
theorem n_max2 : PureN C (fun xs H Q => ∃ i j, xs = [.int i, .int j] ∧ Q (.int (if j > i then j else i)) H) fMax2 := by
  intro F H xs ds R Q st r e q
  unfold fMax2 at e
  split at e
  · cases e
    cases r with
    | cons r rr => cases rr with
      | cons r2 rr => cases rr; cases r; cases r2; exact ⟨_, _, rfl, NewR.same st (.int _) q⟩
  · cases e
def fLen (ds : List D) : Option RV := match ds with
  | [.str x] => if x.length ≤ sizeLine then some (.sh (.int x.length)) else none
  | [d] => (elems d).map fun xs => .sh (.int xs.length)
  | _ => none
def rLenX (K : PySem.W.Frag) : List V → Hp → VK → Prop := fun xs H Q => (∃ p ys, xs = [.ref p] ∧ (SqL K H p ys ∨ SqT K H p ys) ∧ Q (.int ys.length) H) ∨ ∃ z, xs = [.str z] ∧ z.length ≤ sizeLine ∧ Q (.int z.length) H
theorem cr_lenX : CallR X (.builtin "len") (rLenX X.K) := call_len_seq.or call_len_str
theorem n_len (hK : X.K = C.K) : PureN C (rLenX X.K) fLen := by
  intro F H xs ds R Q st r e q
  unfold fLen at e
  split at e
  · split at e
    · rename_i hl
      cases e
      cases r with
      | cons r rr => cases rr; cases r; exact .inr ⟨_, rfl, hl, NewR.same st (.int _) q⟩
    · cases e
  · obtain ⟨xs, e1, rfl⟩ := Option.map_eq_some_iff.mp e
    cases r with
    | cons r rr =>
      cases rr
      obtain ⟨p, vs, rfl, hs, hr⟩ := elems_of st r e1
      refine .inl ⟨p, vs, rfl, by rw [hK]; exact hs, ?_⟩
      rw [hr.length]
      exact NewR.same st (.int _) q
  · cases e
/-- isinstance(x, T) of a built-in type -/
def isiD (d : D) (t : Ty) : Option Bool := match d with
  | .non => some false
  | .bl _ => some (match t with | .bool => true | .int => true | _ => false)
  | .int _ => some (match t with | .int => true | _ => false)
  | .str _ => some (match t with | .str => true | _ => false)
  | .tup _ => some (match t with | .tuple => true | _ => false)
  | .lst _ => some (match t with | .list => true | _ => false)
  | .dic _ => some (match t with | .dict => true | _ => false)
  | _ => none
def fIsi (ds : List D) : Option RV := match ds with
  | [d, .ty t] => (isiD d t).map fun b => .sh (.bl b)
  | _ => none
theorem kit_non {K : PySem.W.Frag} (t : Ty) : PySem.W.kitOne K (.type "NoneType") (.type t.name) = some false := by cases t <;> exact kit_ty (by decide +kernel)
theorem kit_bool {K : PySem.W.Frag} (t : Ty) : PySem.W.kitOne K (.type "bool") (.type t.name) = some (match t with | .bool => true | .int => true | _ => false) := by cases t <;> exact kit_ty (by decide +kernel)
theorem kit_int {K : PySem.W.Frag} (t : Ty) : PySem.W.kitOne K (.type "int") (.type t.name) = some (match t with | .int => true | _ => false) := by cases t <;> exact kit_ty (by decide +kernel)
theorem kit_str {K : PySem.W.Frag} (t : Ty) : PySem.W.kitOne K (.type "str") (.type t.name) = some (match t with | .str => true | _ => false) := by cases t <;> exact kit_ty (by decide +kernel)
theorem kit_tup {K : PySem.W.Frag} (t : Ty) : PySem.W.kitOne K (.type "tuple") (.type t.name) = some (match t with | .tuple => true | _ => false) := by cases t <;> exact kit_ty (by decide +kernel)
theorem kit_lst {K : PySem.W.Frag} (t : Ty) : PySem.W.kitOne K (.type "list") (.type t.name) = some (match t with | .list => true | _ => false) := by cases t <;> exact kit_ty (by decide +kernel)
theorem kit_dic {K : PySem.W.Frag} (t : Ty) : PySem.W.kitOne K (.type "dict") (.type t.name) = some (match t with | .dict => true | _ => false) := by cases t <;> exact kit_ty (by decide +kernel)
theorem isi_of {F H : Hp} {x : V} {d : D} {t : Ty} {b : Bool} (st : Same F H) (r : Rep C F x d) (h : isiD d t = some b) : ∃ u, TyX C.K H x u ∧ PySem.W.kitOne C.K u (.type t.name) = some b := by
  cases r with
  | non => cases h; exact ⟨_, .base .non, kit_non t⟩
  | bl k => cases h; exact ⟨_, .base (.bl k), kit_bool t⟩
  | int k => cases h; exact ⟨_, .base (.int k), kit_int t⟩
  | str k => cases h; exact ⟨_, .base (.str k), kit_str t⟩
  | tup hs hr =>
    cases h
    refine ⟨_, ?_, kit_tup t⟩
    rcases hs with (hs | ⟨o, hs⟩) | ⟨o, its, n, hk, hc, _⟩
    · exact .base (.tup (st _ _ hs))
    · exact .fTuple (st _ _ hs)
    · exact .kTuple hk hc
  | lst hs hr => cases h; exact ⟨_, .base (.lst (st _ _ hs)), kit_lst t⟩
  | dicK hs hr =>
    cases h
    exact ⟨_, .base (.dK (st _ _ hs)), kit_dic t⟩
  | dicT hs hr =>
    cases h
    exact ⟨_, .base (.dT (st _ _ hs)), kit_dic t⟩
  | _ => cases h
theorem n_isi (hK : X.K = C.K) : PureN C (rIsi X.K) fIsi := by
  intro F H xs ds R Q st r e q
  unfold fIsi at e
  split at e
  · obtain ⟨b, e1, rfl⟩ := Option.map_eq_some_iff.mp e
    cases r with
    | cons r rr => cases rr with
      | cons r2 rr =>
        cases rr; cases r2
        obtain ⟨u, h1, h2⟩ := isi_of st r e1
        refine ⟨_, _, u, _, b, rfl, .ty _, by rw [hK]; exact h1, by rw [hK]; exact h2, NewR.same st (.bl _) q⟩
  · cases e
def bls : List D → Option (List Bool)
  | [] => some []
  | .bl b :: r => (bls r).map (b :: ·)
  | _ => none
theorem bls_of {F : Hp} : ∀ {ds : List D} {vs : List V} {bs : List Bool}, RepL C F vs ds → bls ds = some bs → vs = bs.map V.bl
  | [], _, bs, r, e => by cases r; cases e; rfl
  | d :: ds, _, bs, r, e => by
    cases r with
    | cons r1 r2 =>
      cases d with
      | bl b =>
        have e : (bls ds).map (b :: ·) = some bs := e
        obtain ⟨bs', e1, rfl⟩ := Option.map_eq_some_iff.mp e
        cases r1
        rw [bls_of r2 e1]
        rfl
      | _ => cases e
def fAll (ds : List D) : Option RV := match ds with
  | [.lst xs] => (bls xs).map fun bs => .sh (.bl (bs.all id))
  | _ => none
def fAny (ds : List D) : Option RV := match ds with
  | [.lst xs] => (bls xs).map fun bs => .sh (.bl (bs.any id))
  | _ => none
theorem n_all (hK : X.K = C.K) : PureN C (rAll X.K) fAll := by
  intro F H xs ds R Q st r e q
  unfold fAll at e
  split at e
  · obtain ⟨bs, e1, rfl⟩ := Option.map_eq_some_iff.mp e
    cases r with
    | cons r rr =>
      cases rr
      cases r with
      | @lst a vs _ hs hr =>
        have := bls_of hr e1
        subst this
        exact ⟨a, bs, rfl, SqL.of (st _ _ hs), NewR.same st (.bl _) q⟩
  · cases e
theorem n_any (hK : X.K = C.K) : PureN C (rAny X.K) fAny := by
  intro F H xs ds R Q st r e q
  unfold fAny at e
  split at e
  · obtain ⟨bs, e1, rfl⟩ := Option.map_eq_some_iff.mp e
    cases r with
    | cons r rr =>
      cases rr
      cases r with
      | @lst a vs _ hs hr =>
        have := bls_of hr e1
        subst this
        exact ⟨a, bs, rfl, SqL.of (st _ _ hs), NewR.same st (.bl _) q⟩
  · cases e
def intsD : List D → Option (List Int)
  | [] => some []
  | .int b :: r => (intsD r).map (b :: ·)
  | _ => none
theorem ints_of {F : Hp} : ∀ {ds : List D} {vs : List V} {bs : List Int}, RepL C F vs ds → intsD ds = some bs → vs = bs.map V.int
  | [], _, bs, r, e => by cases r; cases e; rfl
  | d :: ds, _, bs, r, e => by
    cases r with
    | cons r1 r2 =>
      cases d with
      | int b =>
        have e : (intsD ds).map (b :: ·) = some bs := e
        obtain ⟨bs', e1, rfl⟩ := Option.map_eq_some_iff.mp e
        cases r1
        rw [ints_of r2 e1]
        rfl
      | _ => cases e
/-- the greatest -/
def maxI : List Int → Option Int
  | [] => none
  | x :: r => some (r.foldl (fun m y => if y > m then y else m) x)
theorem foldl_max : ∀ (r : List Int) (x : Int), (r.foldl (fun m y => if y > m then y else m) x ∈ x :: r) ∧ ∀ y ∈ x :: r, y ≤ r.foldl (fun m y => if y > m then y else m) x := by
  intro r
  induction r with
  | nil => intro x; exact ⟨List.mem_cons_self, fun y hy => by rw [List.mem_singleton.mp hy]; exact Int.le_refl _⟩
  | cons z r ih =>
    intro x
    rw [List.foldl_cons]
    obtain ⟨h1, h2⟩ := ih (if z > x then z else x)
    refine ⟨?_, fun y hy => ?_⟩
    · rcases List.mem_cons.mp h1 with h | h
      · rw [h]; split
        · exact List.mem_cons_of_mem _ List.mem_cons_self
        · exact List.mem_cons_self
      · exact List.mem_cons_of_mem _ (List.mem_cons_of_mem _ h)
    · have hx : (if z > x then z else x) ≤ _ := h2 _ List.mem_cons_self
      rcases List.mem_cons.mp hy with rfl | hy
      · refine Int.le_trans ?_ hx
        split <;> omega
      · rcases List.mem_cons.mp hy with rfl | hy
        · refine Int.le_trans ?_ hx
          split <;> omega
        · exact h2 y (List.mem_cons_of_mem _ hy)
def fMaxL (ds : List D) : Option RV := match ds with
  | [.lst xs] => (intsD xs).bind fun ns => (maxI ns).map fun m => .sh (.int m)
  | _ => none
theorem n_maxL (hK : X.K = C.K) : PureN C (rMax X.K) fMaxL := by
  intro F H xs ds R Q st r e q
  unfold fMaxL at e
  split at e
  · obtain ⟨ns, e1, e2⟩ := Option.bind_eq_some_iff.mp e
    obtain ⟨m, e3, rfl⟩ := Option.map_eq_some_iff.mp e2
    cases r with
    | cons r rr =>
      cases rr
      cases r with
      | @lst a vs _ hs hr =>
        have := ints_of hr e1
        subst this
        cases ns with
        | nil => cases e3
        | cons x ns =>
          cases e3
          obtain ⟨h1, h2⟩ := foldl_max ns x
          refine ⟨a, x :: ns, rfl, SqL.of (st _ _ hs), Nat.succ_pos _, fun m hm hle => ?_⟩
          have : m = ns.foldl (fun m y => if y > m then y else m) x := Int.le_antisymm (h2 m hm) (hle _ h1)
          rw [this]
          exact NewR.same st (.int _) q
  · cases e
def fTupOf (ds : List D) : Option RV := match ds with
  | [.lst xs] => some (.sh (.tup xs))
  | [.tup xs] => some (.sh (.tup xs))
  | _ => none
theorem n_tupOf (hK : X.K = C.K) : PureN C (fun xs H Q => ∃ p ys, xs = [.ref p] ∧ ((SqL X.K H p ys ∧ ∀ l, H l = none → Q (.ref l) (upd H l (.tup ys))) ∨ (SqT X.K H p ys ∧ Q (.ref p) H))) fTupOf := by
  intro F H xs ds R Q st r e q
  unfold fTupOf at e
  split at e
  · cases e
    cases r with
    | cons r rr =>
      cases rr
      cases r with
      | @lst a vs _ hs hr =>
        refine ⟨a, vs, rfl, .inl ⟨SqL.of (st _ _ hs), fun l hl => ?_⟩⟩
        obtain ⟨g, n⟩ := newT st hr hl
        exact q _ _ _ g n
  · cases e
    cases r with
    | cons r rr =>
      cases rr
      cases r with
      | @tup a vs _ hs hr => exact ⟨a, vs, rfl, .inr ⟨by rw [hK]; exact SqT_mono st hs, NewR.same st (.tup hs hr) q⟩⟩
  · cases e
def fLstOf (ds : List D) : Option RV := match ds with
  | [d] => (elems d).map fun xs => .fr (.lst xs)
  | _ => none
theorem n_lstOf (hK : X.K = C.K) : PureN C (fun xs H Q => ∃ p ys, xs = [.ref p] ∧ (SqL X.K H p ys ∨ SqT X.K H p ys) ∧ ∀ l, H l = none → Q (.ref l) (upd H l (.lst ys))) fLstOf := by
  intro F H xs ds R Q st r e q
  unfold fLstOf at e
  split at e
  · obtain ⟨xs, e1, rfl⟩ := Option.map_eq_some_iff.mp e
    cases r with
    | cons r rr =>
      cases rr
      obtain ⟨p, vs, rfl, hs, hr⟩ := elems_of st r e1
      refine ⟨p, vs, rfl, by rw [hK]; exact hs, fun l hl => ?_⟩
      obtain ⟨g, n⟩ := newL st hr hl
      exact q _ _ _ g n
  · cases e
end
end MM

/-! MM: raise, try. The first part joins two rules of the hand layer (several except clauses; a clause with a name). -/
namespace MM
open PySem PySem.Spec PyProof.Rows L2

abbrev TSx := Addr → Value → Option Addr → TS
def asEnds (D : Ends) : Option Nat → Ends
  | none => D
  | some i => { nx := fun σ' H' => D.nx (σ'.set i none) H', rt := D.rt, bk := fun σ' H' => D.bk (σ'.set i none) H', ct := fun σ' H' => D.ct (σ'.set i none) H' }
def asSt (a : Addr) (σ : L2.St) : Option Nat → L2.St
  | none => σ
  | some i => σ.set i (some (.ref a))
/-- what the clauses wish of an exception of the body, one after the other -/
def wHds (K : PySem.W.Frag) (Wout : WX) (D : Ends) : List (Value × Option Nat × TSx) → WX
  | [] => Wout
  | (c, o, ts) :: r => fun cls d σ H => ∃ b, PySem.W.exmOne K cls c = some b ∧ (b = true → ∀ a, H a = none → ts a cls d (asEnds D o) (asSt a σ o) H) ∧ (b = false → wHds K Wout D r cls d σ H)
inductive Hds (X : Cx) : List ExceptHandler → List (Value × Option Nat × TSx) → Prop
  | nil : Hds X [] []
  | plain {x : Str} {c : Value} {ts : TSx} {b₀ : Stmt} {suite : List Stmt} {np pos' : Pos} {hds : List ExceptHandler} {l : List (Value × Option Nat × TSx)} (hc : Names X x c)
      (hsu : ∀ (a : Addr) (oe : Obj) (cls : Value) (d : Option Addr) (pn : List (Addr × Obj)), Zc cls d oe → (∃ vs, oe.data = .fields vs) → PSs (X.suite a ((a, oe) :: pn)) (b₀ :: suite) (ts a cls d)) (r : Hds X hds l) :
      Hds X (.ExceptHandler (some (.Name x np)) none (b₀ :: suite) pos' :: hds) ((c, none, ts) :: l)
  | as {x n : Str} {c : Value} {i : Nat} {ts : TSx} {b₀ : Stmt} {suite : List Stmt} {np pos' : Pos} {hds : List ExceptHandler} {l : List (Value × Option Nat × TSx)} (hN : X.N.Nodup) (hi : X.N[i]? = some n) (hln : X.env.kindOf n = some .local) (hc : Names X x c)
      (hsu : ∀ (a : Addr) (oe : Obj) (cls : Value) (d : Option Addr) (pn : List (Addr × Obj)), Zc cls d oe → (∃ vs, oe.data = .fields vs) → PSs (X.suite a ((a, oe) :: pn)) (b₀ :: suite) (ts a cls d)) (r : Hds X hds l) :
      Hds X (.ExceptHandler (some (.Name x np)) (some n) (b₀ :: suite) pos' :: hds) ((c, some i, ts) :: l)
section
variable {X : Cx} {body : List Stmt} {h₀ : ExceptHandler} {hds : List ExceptHandler} {l : List (Value × Option Nat × TSx)} {pos : Pos} {tb : WX → TS} {Wout : WX}
theorem ps_try (hs : X.stack = X.env :: X.outer) (hf : X.env.frame = some X.env.locals) (tk : Takes X Wout)
    (hb : ∀ (W : WX) (pn : List (Addr × Obj)) (xe : Value → Shared → Prop), Takes (X.tr pn xe) W → PassesOwn (model X.prog X.w) X.A X.env xe → PSs (X.tr pn xe) body (tb W))
    (hh : Hds X (h₀ :: hds) l) : PS X (.Try body (h₀ :: hds) [] [] pos) (fun D σ H => tb (wHds X.K Wout D l) D σ H) := by
  refine ⟨fun pins s σ H D I h => ?_⟩
  have ok := I.ok
  have hfr : X.A.frames = some (X.env :: X.outer) := by rw [ok.frames, hs]
  refine wpAny_Try_except ?_
  refine wpAny_mono ((hb (wHds X.K Wout D l) (X.pn ++ pins) (fun e s₁ => wpAny (model X.prog X.w) X.A (noteFrame e X.env) (fun _ s₂ => wpAny (model X.prog X.w) X.A (setFlight e none) (fun _ s₃ =>
    wpAny (model X.prog X.w) X.A (handleBy e X.env (h₀ :: hds)) (SP X pins D) X.xe s₃) X.xe s₂) X.xe s₁) (fun u s' xx => ?_) PassesOwn.looking).run [] s σ H D (I.toTry _) h) (fun f s1 hsp => ?_) (fun e s1 he => he)
  · -- the catch
    obtain ⟨a, B, sI, pins', σ', H', cls, d, rfl, J', nb, up, sky, na, os, ag, w⟩ := xx
    have J : L2.Inv X pins σ' H' sI := J'.ofTry ok
    have sky' : Sky B (X.env :: X.outer) a (Zc cls d) X.env.locals s'.heap := by rw [← hs]; exact sky
    show wpAny (model X.prog X.w) X.A (noteFrame (.ref a) X.env) _ _ _
    refine Sky.land Zc.steady hfr hf sky' fun h3 fl3 up3 => ?_
    have J3 : L2.Inv X pins σ' H' { s' with heap := h3 } := J.landed nb fl3.1 (up.trans up3) os ag
    obtain ⟨oe3, vs3, he3, hz3, hd3⟩ := fl3.there
    have notFr : ∀ {h : Heap} {o : Obj} {vs : Array Value}, h.FunFrames B (X.env :: X.outer) → h.get? a = some o → o.data = .fields vs → a ∉ frs (X.env :: X.outer) := fun {h o vs} ff e dd hm => by
      obtain ⟨_, o', e', hnf⟩ := ff.mem hm
      rw [e] at e'; cases e'
      exact hnf _ dd
    have nfr := notFr fl3.2.2.1 he3 hd3
    have nL : a ≠ X.env.locals := fun z => nfr (List.mem_filterMap.mpr ⟨X.env, List.mem_cons_self, by rw [hf, z]⟩)
    have nF : a ∉ X.fs := fun hm => by
      obtain ⟨e, he, q⟩ := List.mem_filterMap.mp hm
      exact nfr (List.mem_filterMap.mpr ⟨e, List.mem_cons_of_mem _ he, q⟩)
    have S3 := J3.suite he3 hd3 na nL nF
    have go : ∀ {hds' : List ExceptHandler} {l' : List (Value × Option Nat × TSx)}, Hds X hds' l' → wHds X.K Wout D l' cls d σ' H' →
        wpAny (model X.prog X.w) X.A (handleBy (.ref a) X.env hds') (SP X pins D) X.xe { s' with heap := h3 } := by
      intro hds' l' hk
      have LT : PySem.W.Looks (model X.prog X.w) h3 (typeOf (.ref a)) cls := fun A Q E s k q => wpAny_typeOf_ref (k _ _ he3) (by rw [hz3.1]; exact q)
      have test : ∀ {x : Str} {c : Value} {np : Pos} (_ : Names X x c) {Q : Value → Shared → Prop} {E : Value → Shared → Prop}, Q c { s' with heap := h3 } → wpAny (model X.prog X.w) (X.A.mark (some (.ref a))) (eval (.Name x np) X.env) Q E { s' with heap := h3 } := fun {x c np} hc {Q E} q => by
        obtain ⟨hg, hdbg, hm | ⟨hm, hv, hnn⟩⟩ := hc
        · exact ld_glob (X := X.suite a ((a, oe3) :: (X.pn ++ pins))) S3 hg hm q hdbg
        · exact ld_blt (X := X.suite a ((a, oe3) :: (X.pn ++ pins))) S3 hg hm hv q hnn hdbg
      induction hk with
      | nil =>
        intro w
        refine wpAny_handleBy_nil ?_
        obtain ⟨k1, k2, k3, oe, vs, T, oT, ts', he, hz, hd, h1, hr⟩ := id fl3
        unfold PySem.passOn
        refine wpAny_bind (wpAny_field he hd h1 ?_)
        rw [if_neg (show ¬ ((Value.ref T == Value.none) = true) from by simp)]
        have fin : wpAny (model X.prog X.w) X.A (setFlight (.ref a) X.env.frame) (fun _ s4 => wpAny (model X.prog X.w) X.A (throw (.ref a) : Sem Flow) (SP X pins D) X.xe s4) X.xe { s' with heap := h3 } := by
          rw [hf]
          refine HandSPX.setFlight_upZ fl3 fun h4 hh4 up4 => wpAny_throw (tk _ _ ?_)
          exact ⟨a, B, sI, pins, σ', H', cls, d, rfl, J, nb, (up.trans up3).trans up4, .inr (.inr (by rw [hs]; exact hh4)), na, os, ag, w⟩
        first
          | exact wpAny_bind (wpAny_pure (wpAny_bind fin))
          | exact wpAny_bind fin
      | @plain x c ts b₀ suite np pos' hds2 l2 hc hsu r ih =>
        intro w
        obtain ⟨b, hb1, hyes, hno⟩ := w
        refine wpAny_handleBy_cons (codeAny_handlers_test ?_) (by intro q; cases q)
        have LM := PySem.W.exm_one (M := model X.prog X.w) (J3.kIn) LT hb1
        refine test hc (LM.here ?_)
        cases b with
        | true =>
          refine codeAny_handlers_suite ?_
          refine HandSPX.lands_againZ fl3 fun h4 fl4 up4 => ?_
          have J4 : L2.Inv X pins σ' H' { s' with heap := h4 } := J.landed nb fl4.1 ((up.trans up3).trans up4) os ag
          obtain ⟨oe4, vs4, he4, hz4, hd4⟩ := fl4.there
          have S4 := J4.suite he4 hd4 na nL nF
          refine wpAny_mono ((hsu a oe4 cls d (X.pn ++ pins) hz4 ⟨_, hd4⟩).run [] _ _ H' _ S4 (hyes rfl a na)) (fun f s6 hsp => ?_) (fun _ _ z => False.elim z)
          cases f with
          | next =>
            obtain ⟨σ6, H6, S6, q6⟩ := hsp
            exact ⟨_, _, S6.unsuite ok, q6⟩
          | brk =>
            obtain ⟨σ6, H6, S6, q6⟩ := hsp
            exact ⟨_, _, S6.unsuite ok, q6⟩
          | cont =>
            obtain ⟨σ6, H6, S6, q6⟩ := hsp
            exact ⟨_, _, S6.unsuite ok, q6⟩
          | ret u =>
            obtain ⟨v6, σ6, H6, S6, r6, q6⟩ := hsp
            exact ⟨_, _, _, S6.unsuite ok, r6, q6⟩
        | false =>
          show wpAny _ X.A (handleBy (.ref a) X.env hds2) _ _ _
          exact ih (hno rfl)
      | @as x n c i ts b₀ suite np pos' hds2 l2 hN hi hln hc hsu r ih =>
        intro w
        obtain ⟨b, hb1, hyes, hno⟩ := w
        have hloc : Loc X.env.scope n := .inl hln
        refine wpAny_handleBy_cons (codeAny_handlers_test ?_) (by intro q; cases q)
        have LM := PySem.W.exm_one (M := model X.prog X.w) (J3.kIn) LT hb1
        refine test hc (LM.here ?_)
        cases b with
        | true =>
          refine codeAny_handlers_suite_as ?_
          refine HandSPX.lands_againZ fl3 fun h4 fl4 up4 => ?_
          have J4 : L2.Inv X pins σ' H' { s' with heap := h4 } := J.landed nb fl4.1 ((up.trans up3).trans up4) os ag
          obtain ⟨oe4, vs4, he4, hz4, hd4⟩ := fl4.there
          have S4 := J4.suite he4 hd4 na nL nF
          refine store_ok (X := X.suite a ((a, oe4) :: (X.pn ++ pins))) (v := .ref a) S4 hN hi hloc rfl (fun s5 S5 => ?_) (.inr hln)
          refine wpAny_mono ((hsu a oe4 cls d (X.pn ++ pins) hz4 ⟨_, hd4⟩).run [] s5 _ H' _ S5 (hyes rfl a na)) (fun f s6 hsp => ?_) (fun _ _ z => False.elim z)
          have end_ : ∀ {σ6 : L2.St} {H6 : Hp} {Q : Shared → Prop}, L2.Inv (X.suite a ((a, oe4) :: (X.pn ++ pins))) [] σ6 H6 s6 → (∀ s7, L2.Inv X pins (σ6.set i none) H6 s7 → Q s7) →
              wpAny (model X.prog X.w) X.A (do bindName X.env n .none; unbindBehindTheSuite X.env n pos') (fun _ s7 => Q s7) X.xe s6 := fun {σ6 H6 Q} S6 hq => gone_ok (S6.unsuite ok) hN hi hln hq
          cases f with
          | next =>
            obtain ⟨σ6, H6, S6, q6⟩ := hsp
            exact end_ S6 fun s7 J7 => ⟨_, _, J7, q6⟩
          | brk =>
            obtain ⟨σ6, H6, S6, q6⟩ := hsp
            exact end_ S6 fun s7 J7 => ⟨_, _, J7, q6⟩
          | cont =>
            obtain ⟨σ6, H6, S6, q6⟩ := hsp
            exact end_ S6 fun s7 J7 => ⟨_, _, J7, q6⟩
          | ret u =>
            obtain ⟨v6, σ6, H6, S6, r6, q6⟩ := hsp
            exact end_ S6 fun s7 J7 => ⟨_, _, _, J7, r6, q6⟩
        | false =>
          show wpAny _ X.A (handleBy (.ref a) X.env hds2) _ _ _
          exact ih (hno rfl)
    exact go hh w
  · cases f with
    | next =>
      obtain ⟨σ', H', J', q⟩ := hsp
      exact wpAny_execs_nil ⟨σ', H', J'.ofTry ok, q⟩
    | brk =>
      obtain ⟨σ', H', J', q⟩ := hsp
      exact ⟨σ', H', J'.ofTry ok, q⟩
    | cont =>
      obtain ⟨σ', H', J', q⟩ := hsp
      exact ⟨σ', H', J'.ofTry ok, q⟩
    | ret u =>
      obtain ⟨v, σ', H', J', r, q⟩ := hsp
      exact ⟨v, σ', H', J'.ofTry ok, r, q⟩
end

/-! ### by data -/
/-- a clause: its class, the slot of its name, what its suite does with the exception -/
structure Hd where
  c : Nat
  i : Option Nat
  m : Xc → M Fl
def unSet (E : Ev) : Option Nat → Ev
  | none => E
  | some i => E.set i .un
def goHd (x : Xc) (h : Hd) (E : Ev) : Out Fl := match h.m x (unSet E h.i) with
  | .ok f E1 => .ok f (unSet E1 h.i)
  | _ => .stuck
def hdL (sub : Nat → Nat → Option Bool) (x : Xc) : List Hd → Ev → Out Fl
  | [], E => .ex x E
  | h :: r, E => match sub x.c h.c with
    | some true => goHd x h E
    | some false => hdL sub x r E
    | none => .stuck
def sTry (sub : Nat → Nat → Option Bool) (mb : M Fl) (hs : List Hd) : M Fl := fun E => match mb E with
  | .ex x E1 => hdL sub x hs E1
  | o => o
/-- the clauses of the text do what hs tells -/
inductive MHds (C : Ctx) (B : Base) (X : Cx) : List ExceptHandler → List Hd → Prop
  | nil : MHds C B X [] []
  | plain {x : Str} {h : Hd} {b₀ : Stmt} {suite : List Stmt} {np pos' : Pos} {hds : List ExceptHandler} {l : List Hd} (hc : Names X x (.ref (C.fa h.c))) (hi : h.i = none)
      (hsu : ∀ (a : Addr) (oe : Obj) (cls : Value) (d : Option Addr) (pn : List (Addr × Obj)) (x : Xc), Zc cls d oe → (∃ vs, oe.data = .fields vs) → PSs (X.suite a ((a, oe) :: pn)) (b₀ :: suite) (tS C B WNo (h.m x))) (r : MHds C B X hds l) :
      MHds C B X (.ExceptHandler (some (.Name x np)) none (b₀ :: suite) pos' :: hds) (h :: l)
  | as {x n : Str} {h : Hd} {i : Nat} {b₀ : Stmt} {suite : List Stmt} {np pos' : Pos} {hds : List ExceptHandler} {l : List Hd} (hN : X.N.Nodup) (hi : X.N[i]? = some n) (hln : X.env.kindOf n = some .local) (hc : Names X x (.ref (C.fa h.c))) (he : h.i = some i)
      (hsu : ∀ (a : Addr) (oe : Obj) (cls : Value) (d : Option Addr) (pn : List (Addr × Obj)) (x : Xc), Zc cls d oe → (∃ vs, oe.data = .fields vs) → PSs (X.suite a ((a, oe) :: pn)) (b₀ :: suite) (tS C B WNo (h.m x))) (r : MHds C B X hds l) :
      MHds C B X (.ExceptHandler (some (.Name x np)) (some n) (b₀ :: suite) pos' :: hds) (h :: l)
section
variable {C : Ctx} {B : Base} {W : WX} {X : Cx} {pos : Pos}
def tsHd (C : Ctx) (B : Base) (h : Hd) : TSx := fun _ _ _ => fun D σ H => ∃ x, tS C B WNo (h.m x) D σ H
theorem MHds.hds {hs : List ExceptHandler} {l : List Hd} (h : MHds C B X hs l) : Hds X hs (l.map fun h => (.ref (C.fa h.c), h.i, tsHd C B h)) := by
  induction h with
  | nil => exact .nil
  | @plain x h b₀ suite np pos' hds l hc hi hsu r ih =>
    rw [List.map_cons, hi]
    exact .plain hc (fun a oe cls d pn hz hv => ⟨fun p s σ H D I ⟨x, w⟩ => (hsu a oe cls d pn x hz hv).run p s σ H D I w⟩) ih
  | @as x n h i b₀ suite np pos' hds l hN hi hln hc he hsu r ih =>
    rw [List.map_cons, he]
    exact .as hN hi hln hc (fun a oe cls d pn hz hv => ⟨fun p s σ H D I ⟨x, w⟩ => (hsu a oe cls d pn x hz hv).run p s σ H D I w⟩) ih
theorem Sim.setUn {F H : Hp} {E : Ev} {σ : L2.St} (S : Sim C B F H E σ) (i : Nat) (o : Option V) : Sim C B F H (E.set i .un) (σ.set i o) := by
  have ne : ∀ (j : Nat) (s : Sl), (E.set i .un)[j]? = some s → s ≠ .un → i ≠ j ∧ E[j]? = some s := fun j s e n => by
    rw [List.getElem?_set] at e
    split at e
    · split at e
      · cases e; exact absurd rfl n
      · cases e
    · rename_i h; exact ⟨h, e⟩
  refine ⟨S.g, by rw [List.length_set, List.length_set]; exact S.len, fun j s e => ?_, fun j k s t a e1 e2 o1 o2 => ?_, fun c w q => ⟨(S.pn c w q).1, (S.pn c w q).2.1, (S.pn c w q).2.2.set i rfl _⟩⟩
  · by_cases hs : s = .un
    · subst hs; trivial
    · obtain ⟨h1, h2⟩ := ne j s e hs
      rw [List.getElem?_set_ne h1]
      exact S.sl j s h2
  · obtain ⟨n1, e1⟩ := ne j s e1 (fun z => by subst z; cases o1)
    obtain ⟨n2, e2⟩ := ne k t e2 (fun z => by subst z; cases o2)
    rw [List.getElem?_set_ne n1, List.getElem?_set_ne n2]
    exact S.sep j k s t a e1 e2 o1 o2
theorem Sim.asSt {F H : Hp} {E : Ev} {σ : L2.St} (S : Sim C B F H E σ) (a : Addr) (o : Option Nat) : Sim C B F H (unSet E o) (asSt a σ o) := by
  cases o with
  | none => exact S
  | some i => exact S.setUn i _
theorem goHd_go {D : Ends} {F H : Hp} {E : Ev} {σ : L2.St} {x : Xc} {h : Hd} (a : Addr) (S : Sim C B F H E σ) (p : PostS C B W F (kS C B F D) (goHd x h E)) : tsHd C B h a (.ref 0) none (asEnds D h.i) (MM.asSt a σ h.i) H := by
  refine ⟨x, F, unSet E h.i, S.asSt a h.i, ?_⟩
  unfold goHd at p
  cases hm : h.m x (unSet E h.i) with
  | stuck => rw [hm] at p; exact p.elim
  | ex y E1 => rw [hm] at p; exact p.elim
  | ok f E1 =>
    rw [hm] at p
    cases hi : h.i with
    | none =>
      rw [hi] at p
      exact p
    | some i =>
      rw [hi] at p
      cases f with
      | nx => exact fun σ1 F1 H1 S1 st1 => p _ F1 H1 (S1.setUn i none) st1
      | bk => exact fun σ1 F1 H1 S1 st1 => p _ F1 H1 (S1.setUn i none) st1
      | ct => exact fun σ1 F1 H1 S1 st1 => p _ F1 H1 (S1.setUn i none) st1
      | rt r =>
        refine fun σ1 v F1 H1 S1 st1 rr => p (σ1.set i none) v F1 H1 (S1.setUn i none) st1 ?_
        cases r with
        | sh d => exact rr
        | fr d => obtain ⟨b, e, o, n, ap, pn⟩ := rr; exact ⟨b, e, o, n, ap.set i rfl _, pn⟩
theorem ms_try {body : List Stmt} {h₀ : ExceptHandler} {hds : List ExceptHandler} {l : List Hd} {mb : M Fl} {sub : Nat → Nat → Option Bool} (hsub : ∀ i j b, sub i j = some b → PySem.W.exmOne X.K (.ref (C.fa i)) (.ref (C.fa j)) = some b)
    (hs : X.stack = X.env :: X.outer) (hf : X.env.frame = some X.env.locals) (tk : Takes X W)
    (hb : ∀ (W : WX) (pn : List (Addr × Obj)) (xe : Value → Shared → Prop), Takes (X.tr pn xe) W → PassesOwn (model X.prog X.w) X.A X.env xe → PSs (X.tr pn xe) body (tS C B W mb))
    (hh : MHds C B X (h₀ :: hds) l) : PS X (.Try body (h₀ :: hds) [] [] pos) (tS C B W (sTry sub mb l)) := by
  refine PS.imp (ps_try hs hf tk (tb := fun W => tS C B W mb) hb hh.hds) fun D σ H ⟨F, E, S, p⟩ => ?_
  refine ⟨F, E, S, ?_⟩
  unfold sTry at p
  cases hm : mb E with
  | stuck => rw [hm] at p; exact p
  | ok f E1 => rw [hm] at p; exact p
  | ex x E1 =>
    rw [hm] at p
    dsimp only at p
    intro σ1 cls d F1 H1 S1 st1 rx
    have go : ∀ (l : List Hd), PostS C B W F (kS C B F D) (hdL sub x l E1) → wHds X.K W D (l.map fun h => (.ref (C.fa h.c), h.i, tsHd C B h)) cls d σ1 H1 := by
      intro l
      induction l with
      | nil => intro q; exact q σ1 cls d F1 H1 S1 st1 rx
      | cons h r ih =>
        intro q
        unfold hdL at q
        cases hsb : sub x.c h.c with
        | none => rw [hsb] at q; exact q.elim
        | some b =>
          rw [hsb] at q
          refine ⟨b, by rw [rx.1]; exact hsub _ _ _ hsb, fun hb a na => ?_, fun hb => ?_⟩
          · subst hb
            exact goHd_go a S1 (q.mono st1 fun _ _ z => z.mono st1)
          · subst hb
            exact ih q
    exact go l p
/-! ### raise -/
theorem ms_raise {c : Nat} {x m : Str} {j : Nat} {p0 p1 p2 : Pos} (hc : X.calm = true) (tk : Takes X W) (q : PySem.W.excIn X.K (C.fa c) PySem.HandSPX.veTail "ValueError.__new__" = true) (gC : X.mg x = some (.ref (C.fa c))) (kC : PySem.W.keepIn X.K (.ref (C.fa c)) = true) (r : Raises X (.ref (C.fa c))) (hg : Gl X x)
    (hdb : (x == ("__debug__" : Str)) = false := by decide) : PS X (.Raise (some (.Call (.Name x p0) [.Constant (.str m) j p1] [] p2)) none pos) (tS C B W (sRaise ⟨c, none⟩)) :=
  PS.imp (ps_raise hc tk (pmk_own PySem.F.excBase_ValueError q gC kC r hg hdb)) fun D σ H ⟨F, E, S, p⟩ => p σ _ none F H S (Same.refl F) ⟨rfl, rfl⟩
theorem ms_never {sts : List Stmt} : PSs X sts (tS C B W (fun _ => .stuck)) := PSs.imp pss_never fun D σ H ⟨F, E, S, p⟩ => p.elim
end
end MM

/-! MM: further rules. -/
namespace MM
open PySem PySem.Spec PyProof.Rows L2
/-- the last read of a slot: what it owns goes with it -/
def eGive (i : Nat) : M RV := fun E => match E[i]? with
  | some (.sh d) => .ok (.sh d) E
  | some (.ow d) => .ok (.fr d) (E.set i .un)
  | _ => .stuck
section
variable {C : Ctx} {B : Base} {W : WX} {X : Cx} {pos p py apos cpos : Pos} {a b : Expr} {ma mb : M RV} {x y name : Str}
theorem me_give (i : Nat) (hN : X.N[i]? = some x := by rfl) (hv : Vis X.env.scope x := by first | exact Or.inl rfl | exact Or.inr (Or.inl rfl) | exact Or.inr (Or.inr rfl)) (hd : (x == ("__debug__" : Str)) = false := by decide)
    (hcd : (x == ("__classdict__" : Str)) = false := by decide) : PE X (.Name x pos) (tE C B W (eGive i)) := by
  refine PE.imp (pe_var hN hv hd hcd) fun σ H Q ⟨F, E, S, p⟩ => ?_
  unfold eGive at p
  cases e : E[i]? with
  | none => rw [e] at p; exact p.elim
  | some s =>
    rw [e] at p
    cases s with
    | un => exact p.elim
    | bo d => exact p.elim
    | sh d =>
      obtain ⟨v, h1, h2⟩ := S.sl i _ e
      exact ⟨v, h1, p v F H S (Same.refl F) h2⟩
    | ow d =>
      obtain ⟨a', h1, h2, h3, h4, h5⟩ := S.give e
      exact ⟨_, h1, p _ F H (S.unset i) (Same.refl F) ⟨a', rfl, h2, h3, h4, h5⟩⟩
variable {T id : String} {r : V → List V → Hp → VK → Prop} {q : D → Bool} {f : D → List D → Option (D × D)}
theorem me_own0 (i : Nat) (pa : PlainAttrs T) (slot : PySem.Slot T name id) (hty : typeOf (.builtin id) = pure (.type "method_descriptor")) (hm : MtR X id r) (ty : ∀ F H a d, Own C F H a d → q d = true → tyV X.K T (.ref a) H) (ho : OwnR C r f)
    (hN : X.N[i]? = some y := by rfl) (hv : Vis X.env.scope y := by first | exact Or.inl rfl | exact Or.inr (Or.inl rfl) | exact Or.inr (Or.inr rfl)) (hdy : (y == ("__debug__" : Str)) = false := by decide) (hcy : (y == ("__classdict__" : Str)) = false := by decide)
    (h1 : attributeBase (.Name y py) name X.env (eval (.Name y py) X.env) = eval (.Name y py) X.env := by rfl) (h3 : (apos.endLine == cpos.line) = true := by rfl) :
    PE X (.Call (.Attribute (.Name y py) name apos) [] [] cpos) (tE C B W (eOwn i q f aNil)) :=
  PE.imp (pe_bm0 pa slot hty hm (pe_var (i := i) hN hv hdy hcy) h1 h3) fun σ H Q t => by
    obtain ⟨v, h1, h2, F, E, S, h3⟩ := eOwn_go i ty ho t
    exact ⟨v, h1, h2, h3 [] F H S (Same.refl F) .nil⟩
/-! ### zip, enumerate -/
def pairD (p : D × D) : D := .tup [p.1, p.2]
def zipD (ds : List D) : Option (List D) := match ds with
  | [.lst xs, .lst ys] => some ((xs.zip ys).map pairD)
  | [.tup xs, .tup ys] => some ((xs.zip ys).map pairD)
  | _ => none
theorem zip_at {xs ys : List D} {i : Nat} {d : D} (h : ((xs.zip ys).map pairD)[i]? = some d) : ∃ x y, xs[i]? = some x ∧ ys[i]? = some y ∧ d = .tup [x, y] := by
  rw [List.getElem?_map] at h
  cases e : (xs.zip ys)[i]? with
  | none => rw [e] at h; cases h
  | some p =>
    rw [e] at h; cases h
    obtain ⟨h1, h2⟩ := List.getElem?_zip_eq_some.mp e
    exact ⟨p.1, p.2, h1, h2, rfl⟩
theorem zip_end {xs ys : List D} : xs.length ≤ ((xs.zip ys).map pairD).length ∨ ys.length ≤ ((xs.zip ys).map pairD).length := by
  rw [List.length_map, List.length_zip]
  omega
theorem yld_pair {F H : Hp} {T : Addr} {x y : V} {dx dy : D} (st : Same F H) (hT : H T = none) (rx : Rep C F x dx) (ry : Rep C F y dy) : ∃ F'', Grow NoB F H F'' (upd H T (.tup [x, y])) ∧ Rep C F'' (.ref T) (.tup [dx, dy]) := by
  obtain ⟨g, n⟩ := newT st (.cons rx (.cons ry .nil)) hT
  exact ⟨_, g, n⟩
theorem gives_zipL {a b : Addr} {vs ws : List V} {xs ys : List D} {F : Hp} (h : SqL C.K F a vs) (h' : SqL C.K F b ws) (r : RepL C F vs xs) (r' : RepL C F ws ys) : Gives C (Itz C.K a b) ((xs.zip ys).map pairD) F := fun F' H' s1 s2 => by
  have hH : SqL C.K H' a vs := s2.seq (s1.seq h)
  have hH' : SqL C.K H' b ws := s2.seq (s1.seq h')
  refine ⟨fun i d e => ?_, ⟨vs, ws, hH, hH', by rw [r.length, r'.length]; exact zip_end⟩⟩
  obtain ⟨x, y, e1, e2, rfl⟩ := zip_at e
  obtain ⟨v, f1, r1⟩ := r.get e1
  obtain ⟨w, f2, r2⟩ := r'.get e2
  refine ⟨⟨vs, ws, v, w, hH, hH', f1, f2⟩, fun z H'' q => ?_⟩
  obtain ⟨T, x', y', rfl, hT, rfl, q1, q2⟩ := q
  have z1 := q1 vs hH
  have z2 := q2 ws hH'
  rw [f1] at z1; cases z1
  rw [f2] at z2; cases z2
  exact yld_pair s2 hT (r1.mono s1) (r2.mono s1)
theorem gives_zipT {a b : Addr} {vs ws : List V} {xs ys : List D} {F : Hp} (h : SqT C.K F a vs) (h' : SqT C.K F b ws) (r : RepL C F vs xs) (r' : RepL C F ws ys) : Gives C (RZ.ItzT C.K a b) ((xs.zip ys).map pairD) F := fun F' H' s1 s2 => by
  have hH : SqT C.K H' a vs := SqT_mono s2 (SqT_mono s1 h)
  have hH' : SqT C.K H' b ws := SqT_mono s2 (SqT_mono s1 h')
  refine ⟨fun i d e => ?_, ⟨vs, ws, hH, hH', by rw [r.length, r'.length]; exact zip_end⟩⟩
  obtain ⟨x, y, e1, e2, rfl⟩ := zip_at e
  obtain ⟨v, f1, r1⟩ := r.get e1
  obtain ⟨w, f2, r2⟩ := r'.get e2
  refine ⟨⟨vs, ws, v, w, hH, hH', f1, f2⟩, fun z H'' q => ?_⟩
  obtain ⟨T, x', y', rfl, hT, rfl, q1, q2⟩ := q
  have z1 := q1 vs hH
  have z2 := q2 ws hH'
  rw [f1] at z1; cases z1
  rw [f2] at z2; cases z2
  exact yld_pair s2 hT (r1.mono s1) (r2.mono s1)
variable {mr : M (List D)} {e1 e2 : Expr} {elts : List Expr} {kk : Nat} {tpos : Pos}
theorem zipD_inv {ds xs : List D} (h : zipD ds = some xs) : (∃ as bs, ds = [.lst as, .lst bs] ∧ xs = (as.zip bs).map pairD) ∨ ∃ as bs, ds = [.tup as, .tup bs] ∧ xs = (as.zip bs).map pairD := by
  unfold zipD at h
  split at h
  · cases h; exact .inl ⟨_, _, rfl, rfl⟩
  · cases h; exact .inr ⟨_, _, rfl, rfl⟩
  · cases h
theorem mi_zip (hK : X.K = C.K) (hg : Gl X "zip") (hm : X.mg "zip" = none) (ha : PA X [e1, e2] (tA C B W mr))
    (hs : starEach [e1, e2] X.env = (false, eval e1 X.env) :: starEach [e2] X.env := by rfl) (hpl : (backTo pos (starEach [e2] X.env)).any (·.1) = false := by rfl) :
    PI X (.Tuple elts kk tpos) (.Call (.Name "zip" p) [e1, e2] [] pos) (tI C B W (iN zipD mr)) := by
  refine PI.imp (RZ.pi_zipA hg hm ha hs hpl) fun σ H R ⟨F, E, S, q⟩ => ?_
  refine tA_go S q fun ds E1 vs F1 H1 S1 st1 r1 p1 => ?_
  cases hf : zipD ds with
  | none => rw [hf] at p1; exact p1.elim
  | some xs =>
    rw [hf] at p1
    rcases zipD_inv hf with ⟨as, bs, rfl, rfl⟩ | ⟨as, bs, rfl, rfl⟩
    · cases r1 with
      | cons r rr =>
        cases rr with
        | cons r2 rr =>
          cases rr
          cases r with
          | @lst a vs _ hs hr =>
            cases r2 with
            | @lst b ws _ hs2 hr2 =>
              rw [hK]
              exact ⟨a, b, vs, ws, rfl, .inl ⟨SqL.of (S1.fh _ _ hs), SqL.of (S1.fh _ _ hs2), p1 _ F1 H1 S1 st1 (gives_zipL (SqL.of hs) (SqL.of hs2) hr hr2)⟩⟩
    · cases r1 with
      | cons r rr =>
        cases rr with
        | cons r2 rr =>
          cases rr
          cases r with
          | @tup a vs _ hs hr =>
            cases r2 with
            | @tup b ws _ hs2 hr2 =>
              rw [hK]
              exact ⟨a, b, vs, ws, rfl, .inr ⟨SqT_mono S1.fh hs, SqT_mono S1.fh hs2, p1 _ F1 H1 S1 st1 (gives_zipT hs hs2 hr hr2)⟩⟩
/-! ### xs[::-1] of a list -/
def eRev (ma : M RV) : M RV := fun E => (ma E).bind fun r E1 => match r.d with
  | .lst xs => .ok (.fr (.lst xs.reverse)) E1
  | _ => .stuck
theorem me_revL (hK : X.K = C.K) {k : Nat} {p1 p2 p3 : Pos} (ha : PE X a (tE C B W ma)) : PE X (.Subscript a (.Slice none none (some (.UnaryOp .USub (.Constant (.int 1) k p1) p2)) p3) pos) (tE C B W (eRev ma)) := by
  refine PE.imp (pe_revL ha) fun σ H Q ⟨F, E, S, q⟩ => ?_
  refine tE_go S q fun r E1 v F1 H1 S1 st1 r1 p1 => ?_
  cases hd : r.d with
  | lst xs =>
    rw [hd] at r1 p1
    cases r1 with
    | @lst a vs _ hs hr =>
      refine ⟨a, vs, rfl, SqL.of (S1.fh _ _ hs), fun p hp => ?_⟩
      obtain ⟨g, n⟩ := newL S1.fh hr.reverse hp
      obtain ⟨S2, rr⟩ := S1.newR g n
      exact p1 _ _ _ S2 (st1.trans g.fs) rr
  | _ => rw [hd] at p1; exact p1.elim
/-! ### range(a, b, -1) -/
def rgC (lo c : Int) (n : Nat) : List D := (List.range n).map fun (k : Nat) => D.int (lo + k * c)
def rg3 (ds : List D) : Option (List D) := match ds with
  | [.int i, .int j, .int c] => if rgOk i = true ∧ rgOk j = true ∧ c = -1 then some (rgC i (-1) (i - j).toNat) else none
  | _ => none
theorem rg3_inv {ds xs : List D} (h : rg3 ds = some xs) : ∃ i j, ds = [.int i, .int j, .int (-1)] ∧ rgOk i = true ∧ rgOk j = true ∧ xs = rgC i (-1) (i - j).toNat := by
  unfold rg3 at h
  split at h
  · rename_i i j c
    split at h
    · rename_i ok; cases h; obtain ⟨o1, o2, rfl⟩ := ok; exact ⟨i, j, rfl, o1, o2, rfl⟩
    · cases h
  · cases h
theorem gives_rangeC (lo c : Int) (n : Nat) (F : Hp) : Gives C (Itc lo c n) (rgC lo c n) F := fun F' H' s1 s2 => by
  have hl : (rgC lo c n).length = n := by unfold rgC; rw [List.length_map, List.length_range]
  refine ⟨fun i d e => ?_, by rw [hl]; exact Nat.le_refl _⟩
  have hi : i < n := by
    have := (List.getElem?_eq_some_iff.mp e).1
    omega
  have ed : d = .int (lo + i * c) := by
    unfold rgC at e
    rw [List.getElem?_map, List.getElem?_range hi] at e
    exact (Option.some.inj e).symm
  subst ed
  refine ⟨hi, fun x H'' y => ?_⟩
  obtain ⟨rfl, rfl⟩ := y
  exact ⟨F', Grow.refl s2, .int _⟩
theorem mi_range3 {tg c : Expr} (hg : Gl X "range") (hm : X.mg "range" = none) (ha : PA X [a, b, c] (tA C B W mr)) (hs : starEach [a, b, c] X.env = (false, eval a X.env) :: starEach [b, c] X.env := by rfl) (hpl : (backTo pos (starEach [b, c] X.env)).any (·.1) = false := by rfl) :
    PI X tg (.Call (.Name "range" p) [a, b, c] [] pos) (tI C B W (iN rg3 mr)) := by
  refine PI.imp (pi_range3 hg hm ha hs hpl) fun σ H R ⟨F, E, S, q⟩ => ?_
  refine tA_go S q fun ds E1 vs F1 H1 S1 st1 r1 p1 => ?_
  cases hf : rg3 ds with
  | none => rw [hf] at p1; exact p1.elim
  | some xs =>
    rw [hf] at p1
    obtain ⟨i, j, rfl, ok, ok2, rfl⟩ := rg3_inv hf
    obtain ⟨b1, b2⟩ := rgOk_iff ok
    obtain ⟨b3, b4⟩ := rgOk_iff ok2
    cases r1 with
    | cons r rr =>
      cases rr with
      | cons r2 rr =>
        cases rr with
        | cons r3 rr =>
          cases rr
          cases r
          cases r2
          cases r3
          exact ⟨i, j, -1, _, rfl, RgC.neg b1 b2 b3 b4, p1 _ F1 H1 S1 st1 (gives_rangeC i (-1) _ F1)⟩
end
/-! ### x, y = a, b: what is new is owned -/
def setRV (E : Ev) (i : Nat) (r : RV) : Ev := match r with
  | .sh d => E.set i (.sh d)
  | .fr d => E.set i (.ow d)
def sPar2 (i j : Nat) (ma mb : M RV) : M Fl := fun E => (ma E).bind fun ra E1 => (mb E1).bind fun rb E2 => .ok .nx (setRV (setRV E2 i ra) j rb)
section
variable {C : Ctx} {B : Base} {W : WX} {X : Cx} {pos : Pos} {a b : Expr} {ma mb : M RV}
theorem setRV_sim {F H : Hp} {E : Ev} {σ : St} {r : RV} {v : V} (i : Nat) (S : Sim C B F H E σ) (rr : RepR C B F H E σ r v) : Sim C B F H (setRV E i r) (σ.set i (some v)) := by
  have q := setR i S rr
  cases r with
  | sh d => exact q
  | fr d => exact q
theorem Own.obj {F H : Hp} {a : Addr} {d : D} (o : Own C F H a d) : ∃ u, H a = some u ∧ ∀ F' H', Same F F' → F' a = none → H' a = some u → Own C F' H' a d := by
  obtain ⟨n, r⟩ := o
  cases d with
  | lst ds => obtain ⟨vs, e, r⟩ := r; exact ⟨_, e, fun F' H' st n' e' => ⟨n', vs, e', r.mono st⟩⟩
  | dic ds =>
    rcases r with ⟨kvs, e, r⟩ | ⟨kvs, e, r⟩
    · exact ⟨_, e, fun F' H' st n' e' => ⟨n', .inl ⟨kvs, e', r.mono st⟩⟩⟩
    · exact ⟨_, e, fun F' H' st n' e' => ⟨n', .inr ⟨kvs, e', r.mono st⟩⟩⟩
  | obj c fs => obtain ⟨dx, fvs, e, r⟩ := r; exact ⟨_, e, fun F' H' st n' e' => ⟨n', dx, fvs, e', r.mono st⟩⟩
  | _ => exact r.elim
theorem Apart.setOw {E : Ev} {σ : St} {c a : Addr} (h : Apart E σ c) (i : Nat) (d : D) (ne : c ≠ a) (hl : i < σ.length ∨ ¬ i < E.length) : Apart (E.set i (.ow d)) (σ.set i (some (.ref a))) c := fun j s e os z => by
  rw [List.getElem?_set] at e
  split at e
  · rename_i hij
    split at e
    · subst hij
      rcases hl with hl | hl
      · rw [List.getElem?_set_self hl] at z; cases z; exact ne rfl
      · omega
    · cases e
  · rename_i hij
    rw [List.getElem?_set_ne hij] at z
    exact h j s e os z
theorem ms_par2 {i j : Nat} {x y : Str} {px py pt : Pos} {kt k2 pt2} (hc : X.calm = true) (hN : X.N.Nodup) (hi : X.N[i]? = some x) (hj : X.N[j]? = some y) (hij : i ≠ j)
    (hx : X.env.scope.names.lookup x = some .local) (hy : X.env.scope.names.lookup y = some .local) (ha : PE X a (tE C B W ma)) (hb : ∀ B, PE X b (tE C B W mb))
    (hw : swappedStores [.Tuple [.Name x px, .Name y py] kt pt] (.Tuple [a, b] k2 pt2) X.env = pure (some [x, y]))
    (hs : swapsWithSole [.Tuple [.Name x px, .Name y py] kt pt] (.Tuple [a, b] k2 pt2) pos.line X.env = pure false := by rfl)
    (h1 : starEach [a, b] X.env = (false, eval a X.env) :: starEach [b] X.env := by rfl) (h2 : starEach [b] X.env = (false, eval b X.env) :: starEach [] X.env := by rfl) :
    PS X (.Assign [.Tuple [.Name x px, .Name y py] kt pt] (.Tuple [a, b] k2 pt2) pos) (tS C B W (sPar2 i j ma mb)) := by
  refine PS.imp (ps_par hc hN hi hj hij hx hy (pa_cons ha (pa_cons (PE.ex hb) pa_nil h2) h1) hw hs) fun D σ H ⟨F, E, S, p⟩ => ?_
  refine sE_go S p fun ra E1 v F1 H1 S1 st1 rr p1 => ?_
  have fin : ∀ (rb : RV) (E2 : Ev) (w : V) (F2 H2 : Hp), Sim C B F2 H2 E2 σ → Same F1 F2 → RepR C B F2 H2 E2 σ ra v → (RepR C B F2 H2 (setRV E2 i ra) (σ.set i (some v)) rb w) → PostS C B W F1 (kS C B F D) (.ok .nx (setRV (setRV E2 i ra) j rb)) → D.nx ((σ.set i (some v)).set j (some w)) H2 :=
    fun rb E2 w F2 H2 S2 st2 r1 r2 q => q _ F2 H2 (setRV_sim j (setRV_sim i S2 r1) r2) (st1.trans st2)
  cases ra with
  | sh d =>
    refine ⟨B, ?_⟩
    refine sE_go S1 p1 fun rb E2 w F2 H2 S2 st2 rr2 p2 => ?_
    refine ⟨v, w, rfl, fin rb E2 w F2 H2 S2 st2 (Rep.mono st2 rr) ?_ p2⟩
    cases rb with
    | sh e => exact rr2
    | fr e => obtain ⟨b', q1, q2, q3, q4, q5⟩ := rr2; exact ⟨b', q1, q2, q3, q4.set i rfl _, q5⟩
  | fr d =>
    obtain ⟨a', rfl, o, n, ap, pn⟩ := rr
    obtain ⟨u, hu, back⟩ := Own.obj o
    refine ⟨B.pinned a' u, ?_⟩
    have S1p := S1.topin hu o.1 ap
    refine ⟨F1, E1, S1p, ?_⟩
    cases hm : mb E1 with
    | stuck => rw [hm] at p1; exact p1.elim
    | ex x E2 =>
      rw [hm] at p1
      exact fun cls d F2 H2 S2 st2 rx => p1 σ cls d F2 H2 (S2.unpin pn).1 st2 rx
    | ok rb E2 =>
      rw [hm] at p1
      intro w F2 H2 S2 st2 rr2
      obtain ⟨S2', hH, hF, hap⟩ := S2.unpin pn
      have r1 : RepR C B F2 H2 E2 σ (.fr d) (.ref a') := ⟨a', rfl, back F2 H2 st2 hF hH, n, hap, pn⟩
      refine ⟨.ref a', w, rfl, fin rb E2 w F2 H2 S2' st2 r1 ?_ p1⟩
      cases rb with
      | sh e => exact rr2
      | fr e =>
        obtain ⟨b', q1, q2, q3, q4, q5⟩ := rr2
        have nb : b' ≠ a' := fun z => by
          have q5 : L2.upd B.pin a' u b' = none := q5
          rw [z, upd_same] at q5; cases q5
        have q5' : B.pin b' = none := by
          have q5 : L2.upd B.pin a' u b' = none := q5
          rw [upd_ne nb] at q5; exact q5
        have hl := S2.len
        refine ⟨b', q1, q2, q3, q4.setOw i d nb ?_, q5'⟩
        by_cases hlt : i < σ.length
        · exact .inl hlt
        · exact .inr (by rw [← hl]; exact hlt)
end
/-! ### the law's own call -/
theorem FnOk.noX {P : Program} {w : World} {K : PySem.W.Frag} {mg : Str → Option Value} {base : Heap} {k : Nat} {f : Addr} {fd : FuncData} {ps : List Str} {sp : Sp} (F : FnOk P w K mg base (L2.CX P w) k f fd ps sp) :
    FnOk P w K mg base CX0 k f fd ps (fun vs H Q _ => sp vs H Q fun _ _ _ => False) := by
  refine ⟨fun vs H Q E h => F.len vs H Q _ h, fun A outer s H args us vs Q E hr e0 hb rv h => ?_⟩
  refine codeAny_mono (F.run A outer s H args us vs Q _ hr e0 hb rv h) fun r s' hq => ?_
  cases r with
  | error e =>
    obtain ⟨_, _, _, _, _, _, _, _, _, _, _, _, z⟩ := hq
    exact z.elim
  | ok fl =>
    cases fl with
    | ret u => exact hq
    | next => exact False.elim hq
    | brk => exact False.elim hq
    | cont => exact False.elim hq
theorem reps_ints {C : Ctx} {F : Hp} : ∀ ns : List Int, RepL C F (ns.map V.int) (ns.map D.int)
  | [] => .nil
  | n :: ns => .cons (.int n) (reps_ints ns)
theorem law_spec {C : Ctx} {H : Hp} {a : Addr} {ns : List Int} {g : List D → FO} (h : SqL C.K H a (ns.map V.int)) (due : ∃ r, g [.scr (ns.map .int)] = .ok r ∧ r.d = .bl true) : fspec C 1 g [.ref a] H (fun v _ => v = .bl true) fun _ _ _ => False := by
  obtain ⟨r, e, er⟩ := due
  refine ⟨H, [.scr (ns.map .int)], Same.refl H, .cons (.scr h (reps_ints ns)) .nil, rfl, ?_⟩
  rw [e]
  intro v F' H' g n
  cases r with
  | sh d =>
    have er : d = .bl true := er
    subst er
    cases n
    rfl
  | fr d =>
    have er : d = .bl true := er
    subst er
    obtain ⟨_, _, _, _, z⟩ := n
    exact z.elim
section
end
end MM

/-! MM: tuple * int, sums, sorted, max of three. -/
namespace MM
open PySem PySem.Spec PyProof.Rows L2

/-! ### tuple * k for k at most 1 -/
theorem tuple_mul1 (l : Addr) (items : Array Value) (n : Nat) (dd : Option Addr) (sl : Array (Option Value)) (u : Tok) :
    Meets (Builtin.«tuple.__mul__» ⟨[.ref l, .int 1 u], []⟩) (fun _ R s => s.heap.get? l = some { cls := .type "tuple", dict := dd, data := .seq items n, slots := sl } ∧ R (.ok (.ret (Value.ref l))) s) :=
  .of_wp fun prog w A R s h => by
    obtain ⟨hp, g, d, tk, os⟩ := s
    obtain ⟨hl, h⟩ := h
    have f1 := AutoSeq1.idx_int
    have c1 : (items.isEmpty || (1 : Int) == 1) = true := by simp
    wp_walk using wpAny_loadPart' hl
    repeat (first
      | (refine wpAny_ite_true (decide_eq_true c1) ?_; wp_walk using wpAny_loadPart' hl)
      | (rw [if_pos c1]; wp_walk using wpAny_loadPart' hl))
    exact ⟨_, rfl, h⟩
theorem tuple_mul0 (l : Addr) (items : Array Value) (n : Nat) (dd : Option Addr) (sl : Array (Option Value)) (x : Int) (u : Tok) (hx : x ≤ 0) (hx2 : -1000 ≤ x) (hi : items.isEmpty = false) :
    Meets (Builtin.«tuple.__mul__» ⟨[.ref l, .int x u], []⟩) (fun _ R s => s.heap.get? l = some { cls := .type "tuple", dict := dd, data := .seq items n, slots := sl } ∧
      R (.ok (.ret (Value.ref s.heap.objs.size))) { s with heap := s.heap.push { cls := Value.type "tuple", data := Data.seq #[] }, toks := s.toks }) :=
  .of_wp fun prog w A R s h => by
    obtain ⟨hp, g, d, tk, os⟩ := s
    obtain ⟨hl, h⟩ := h
    have f1 := AutoSeq1.idx_int
    have c0 : (decide (x < -(2 ^ 63)) || decide (x ≥ 2 ^ 63)) = false := by
      rw [decide_eq_false (by omega), decide_eq_false (by omega)] <;> rfl
    have c1 : (items.isEmpty || x == 1) = false := by
      rw [hi, Bool.false_or]
      exact beq_eq_false_iff_ne.mpr (by omega)
    have c2 : (decide (x ≤ 0) || items.isEmpty) = true := by
      rw [decide_eq_true hx]
      rfl
    wp_walk using wpAny_loadPart' hl
    repeat (first
      | (refine wpAny_ite_false (decide_eq_false (by rw [c0]; exact Bool.false_ne_true)) ?_; wp_walk using wpAny_loadPart' hl)
      | (refine wpAny_ite_false (decide_eq_false (by rw [c1]; exact Bool.false_ne_true)) ?_; wp_walk using wpAny_loadPart' hl)
      | (refine wpAny_ite_true (decide_eq_true c2) ?_; wp_walk using wpAny_loadPart' hl))
    exact ⟨_, rfl, h⟩

/-! ### * -/
def rRepX (K : PySem.W.Frag) : R2 := fun x y H Q => ∃ l k xs, x = .ref l ∧ y = .int k ∧ SqT K H l xs ∧ xs ≠ [] ∧ -1000 ≤ k ∧ k ≤ 1000 ∧ xs.length ≤ 1000 ∧ (k = 1 → Q (.ref l) H) ∧ (k ≠ 1 → ∀ p, H p = none → Q (.ref p) (upd H p (.tup (List.replicate k.toNat xs).flatten)))
section
variable {X : Cx}
theorem op_repX : OpR X (binaryOp .Mult) (rRepX X.K) := by
  intro pins s σ H x y v u Q I rx ry h
  obtain ⟨l, k, xs, rfl, rfl, hT, hne, h1, h2, hz, q1, q⟩ := h
  by_cases hk : 2 ≤ k
  · exact op_repT pins s σ H _ _ v u Q I rx ry ⟨l, k, xs, rfl, rfl, hT, hne, hk, h2, hz, q (by omega)⟩
  cases rx
  obtain ⟨t, rfl⟩ := ry
  obtain ⟨its, r, ⟨⟨cls, dd, data, sl⟩, ho, hc, n, hd⟩, hs⟩ := I.tuple hT
  simp only at hc hd
  subst hc hd
  have hi : its.toArray.isEmpty = false := by
    cases its with
    | nil => cases r; exact absurd rfl hne
    | cons a b => rfl
  by_cases h1' : k = 1
  · subst h1'
    refine wpAny_binaryOp_repeat_ref (T := "tuple") (U := "int") (by decide) ⟨_, ho, rfl⟩ (fun s' => typeIs_int s' 1 t) noFill_tuple_mul F.fills_int_mul F.slot_int_rmul repeat_tuple F.slot_int_index.lookup
      (call_meets F.slot_int_rmul (typeIs_int s 1 t) F.entry_int_rmul (F.args_int_rmul_2 _ _) (int_rmul_tuple 1 t l its.toArray n dd sl)
        ⟨ho, rfl, ⟨_, ho, rfl⟩, call_meets F.slot_tuple_mul ⟨_, ho, rfl⟩ F.entry_tuple_mul (F.args_tuple_mul_2 _ _) (tuple_mul1 l its.toArray n dd sl t) ⟨ho, ?_⟩⟩)
    exact ⟨.ref l, H, I, rfl, q1 rfl⟩
  · have hk0 : k ≤ 0 := by omega
    refine wpAny_binaryOp_repeat_ref (T := "tuple") (U := "int") (by decide) ⟨_, ho, rfl⟩ (fun s' => typeIs_int s' k t) noFill_tuple_mul F.fills_int_mul F.slot_int_rmul repeat_tuple F.slot_int_index.lookup
      (call_meets F.slot_int_rmul (typeIs_int s k t) F.entry_int_rmul (F.args_int_rmul_2 _ _) (int_rmul_tuple k t l its.toArray n dd sl)
        ⟨ho, rfl, ⟨_, ho, rfl⟩, call_meets F.slot_tuple_mul ⟨_, ho, rfl⟩ F.entry_tuple_mul (F.args_tuple_mul_2 _ _) (tuple_mul0 l its.toArray n dd sl k t hk0 h1 hi) ⟨ho, ?_⟩⟩)
    have e0 : (List.replicate k.toNat xs).flatten = [] := by
      rw [show k.toNat = 0 by omega]
      rfl
    have q' := q h1' s.heap.objs.size I.fresh
    rw [e0] at q'
    exact ⟨.ref s.heap.objs.size, _, I.laid (t' := s.toks) (o := .tup []) (fun b u e => Heap.get?_push_of_some _ e) (Nat.le_refl _) ⟨Nat.zero_le _, [], .nil, ⟨_, Heap.get?_push_size _ rfl, rfl, _, rfl⟩⟩, rfl, q'⟩
end
section
variable {C : Ctx} {X : Cx}
def repD (xs : List D) (k : Nat) : List D := (List.replicate k xs).flatten
def fMul (a b : D) : Option RV := match a, b with
  | .int i, .int j => if mulOk i j = true then some (.sh (.int (i * j))) else none
  | .tup xs, .int k => if xs.isEmpty = false ∧ k ≤ 1000 ∧ -1000 ≤ k ∧ xs.length ≤ 1000 then some (.sh (.tup (repD xs k.toNat))) else none
  | _, _ => none
def rMulA (K : PySem.W.Frag) : R2 := fun x y H Q => rI IntMulOk (fun i j => .int (i * j)) x y H Q ∨ rRepX K x y H Q
theorem op_mulA : OpR X (binaryOp .Mult) (rMulA X.K) := op_mulX.or op_repX
theorem rep_rep {F : Hp} {vs : List V} {ds : List D} (r : RepL C F vs ds) : ∀ k : Nat, RepL C F (List.replicate k vs).flatten (repD ds k)
  | 0 => .nil
  | k + 1 => by
    unfold repD
    rw [List.replicate_succ, List.replicate_succ, List.flatten_cons, List.flatten_cons]
    exact r.append (rep_rep r k)
theorem p_mulA (hK : X.K = C.K) : Pure2 C (rMulA X.K) fMul := by
  intro F H x y dx dy R Q st rx ry e q
  unfold fMul at e
  split at e
  · split at e
    · rename_i hm
      cases e; cases rx; cases ry
      exact .inl ⟨_, _, rfl, rfl, mulOk_ok hm, NewR.same st (.int _) q⟩
    · cases e
  · split at e
    · rename_i hc
      obtain ⟨h0, h1, h2, h3⟩ := hc
      cases e; cases ry
      rename_i ds k
      cases rx with
      | @tup a vs _ hs hr =>
        refine .inr ⟨a, _, vs, rfl, rfl, by rw [hK]; exact SqT_mono st hs, ?_, h2, h1, by rw [hr.length]; exact h3, fun hk => ?_, fun _ p hp => ?_⟩
        · rintro rfl
          cases hr
          cases h0
        · subst hk
          have e : repD ds (1 : Int).toNat = ds := by
            show (List.replicate 1 ds).flatten = ds
            rw [List.replicate_one, List.flatten_singleton]
          rw [e] at q
          exact NewR.same st (.tup hs hr) q
        · obtain ⟨g, n⟩ := newT st (rep_rep hr _) hp
          exact q _ _ _ g n
    · cases e
  · cases e
/-! ### sum -/
theorem sum_take1 : ∀ (ns : List Int) (j : Nat), (ns.take (j + 1)).sum = (ns.take j).sum + ns.getD j 0
  | [], j => by simp
  | n :: ns, 0 => by simp
  | n :: ns, j + 1 => by
    rw [List.take_succ_cons, List.take_succ_cons, List.sum_cons, List.sum_cons, sum_take1 ns j, List.getD_cons_succ]
    omega
theorem preSum_get (ns : List Int) : ∀ j, preSum (fun i => ns.getD i 0) j = (ns.take j).sum
  | 0 => by simp [preSum]
  | j + 1 => by rw [preSum, preSum_get ns j, sum_take1]
theorem sum_tup {prog : Program} {w : World} {A : Around} {E : Value → Shared → Prop} {s : Shared} {l : Addr} {its : List Value} {ns : List Int} {Q : Value → Shared → Prop} (hh : A.handled = none) (hl : IsTup s.heap l its.toArray) (hi : IntsAre its ns)
    (h : ∀ h' tk t', (∀ b o, s.heap.get? b = some o → h'.get? b = some o) → Q (.int ns.sum t') { s with heap := h', toks := tk }) : wpAny (model prog w) A (call (.builtin "sum") [.ref l]) Q E s := by
  have hlt : l < s.heap.objs.size := hl.lt
  have htp : s.heap.IsTuple l its.toArray := hl
  refine call_sum_walkG (wpAny_pyIter_tuple htp ?_)
  refine ⟨_, [_, l], [_], _, _, _, fun i => ns.getD i 0, rfl, Walks.tuple (A := A.in1) hh _ l (Nat.ne_of_lt hlt) its.toArray, ⟨⟨_, Heap.get?_push_size _ rfl, rfl, rfl⟩, htp.push _⟩, fun d hd => ?_, fun i v hv => ?_, fun h' tk t' hk => ?_⟩
  · show d < (s.heap.push _).objs.size
    rw [Heap.size_push]
    rcases List.mem_cons.mp hd with rfl | hd
    · exact Nat.lt_succ_self _
    · rcases List.mem_cons.mp hd with rfl | hd
      · exact Nat.lt_succ_of_lt hlt
      · cases hd
  · replace hv : its[i]? = some v := by simpa using hv
    clear h hl htp hlt
    induction hi generalizing i with
    | nil => simp at hv
    | cons n t r ih =>
      cases i with
      | zero => simp at hv; subst hv; exact ⟨t, rfl⟩
      | succ i =>
        obtain ⟨t', e⟩ := ih i (by simpa using hv)
        exact ⟨t', by simpa using e⟩
  · have hold : ∀ d o, s.heap.get? d = some o → h'.get? d = some o := fun d o e => by
      refine hk d o (fun hm => ?_) (Heap.get?_push_of_some _ e)
      rcases List.mem_cons.mp hm with e1 | hm
      · have := Heap.lt_size e; rw [e1] at this; exact Nat.lt_irrefl _ this
      · cases hm
    have := h h' tk t' hold
    have e : preSum (fun i => ns.getD i 0) its.toArray.size = ns.sum := by
      have hlen := hi.length
      rw [preSum_get, List.size_toArray, hlen, List.take_length]
    rw [e]
    exact this
def fSum (ds : List D) : Option RV := match ds with
  | [d] => (elems d).bind fun xs => (intsD xs).map fun ns => .sh (.int ns.sum)
  | _ => none
def rSumX (K : PySem.W.Frag) : List V → Hp → VK → Prop := fun vs H Q => ∃ (a : Addr) (ns : List Int), vs = [V.ref a] ∧ (SqL K H a (ns.map V.int) ∨ SqT K H a (ns.map V.int)) ∧ Q (.int ns.sum) H
theorem cr_sumX (hc : X.calm = true) : CallR X (.builtin "sum") (rSumX X.K) := by
  intro pins s σ H xs us Q I r h
  obtain ⟨a, ns, rfl, hs | hs, q⟩ := h
  · exact cr_sum hc pins s σ H _ us Q I r ⟨a, ns, rfl, hs, q⟩
  · obtain rfl := Vals.ref1 r
    obtain ⟨its, rv, hl, hz⟩ := I.tuple hs
    exact sum_tup (I.ok.hd hc) hl (Vals.ints rv) fun h' tk t' hk => ⟨.int ns.sum, H, I.kept hk, ⟨_, rfl⟩, q⟩
theorem n_sum (hK : X.K = C.K) : PureN C (rSumX X.K) fSum := by
  intro F H xs ds R Q st r e q
  unfold fSum at e
  split at e
  · obtain ⟨xs, e1, e2⟩ := Option.bind_eq_some_iff.mp e
    obtain ⟨ns, e3, rfl⟩ := Option.map_eq_some_iff.mp e2
    cases r with
    | cons r rr =>
      cases rr
      obtain ⟨p, vs, rfl, hs, hr⟩ := elems_of st r e1
      have := ints_of hr e3
      subst this
      exact ⟨p, ns, rfl, by rw [hK]; exact hs, NewR.same st (.int _) q⟩
  · cases e
/-! ### max(a, b, c) -/
def fMax3 (ds : List D) : Option RV := match ds with
  | [.int a, .int b, .int c] => some (.sh (.int (if b > a then (if c > b then c else b) else (if c > a then c else a))))
  | _ => none
def rMax3 : List V → Hp → VK → Prop := fun xs H Q => ∃ a b c, xs = [.int a, .int b, .int c] ∧ Q (.int (if b > a then (if c > b then c else b) else (if c > a then c else a))) H
theorem cr_max3 (hc : X.calm = true) : CallR X (.builtin "max") rMax3 := by
  intro pins s σ H xs us Q I r h
  obtain ⟨a, b, c, rfl, q⟩ := h
  cases r with
  | cons r1 r => cases r with
    | cons r2 r => cases r with
      | cons r3 r =>
        cases r
        obtain ⟨t, rfl⟩ := r1
        obtain ⟨u, rfl⟩ := r2
        obtain ⟨x, rfl⟩ := r3
        refine max_three_ints (I.ok.hd hc) fun h' tk hk => ⟨_, H, I.kept hk, ?_, q⟩
        split <;> split <;> exact ⟨_, rfl⟩
theorem n_max3 : PureN C rMax3 fMax3 := by
  intro F H xs ds R Q st r e q
  unfold fMax3 at e
  split at e
  · cases e
    cases r with
    | cons r1 r => cases r with
      | cons r2 r => cases r with
        | cons r3 r =>
          cases r; cases r1; cases r2; cases r3
          exact ⟨_, _, _, rfl, NewR.same st (.int _) q⟩
  · cases e
end

/-! ### sorted of tuples of ints -/
open SrtO HT
theorem lex_asym : ∀ ns ms : List Int, HT.lexLt ns ms = true → HT.lexLt ms ns = false
  | [], [], h => by cases h
  | [], _ :: _, _ => rfl
  | _ :: _, [], h => by cases h
  | x :: ns, y :: ms, h => by
    rw [HT.lexLt_cons] at h ⊢
    by_cases e : x = y
    · rw [if_pos e] at h
      rw [if_pos e.symm]
      exact lex_asym ns ms h
    · rw [if_neg e] at h
      rw [if_neg (Ne.symm e)]
      have := of_decide_eq_true h
      exact decide_eq_false (by omega)
theorem lex_tr : ∀ x y z : List Int, HT.lexLt y x = false → HT.lexLt z y = false → HT.lexLt z x = false
  | [], [], z, h1, h2 => h2
  | [], _ :: _, [], h1, h2 => rfl
  | [], _ :: _, _ :: _, h1, h2 => rfl
  | _ :: _, [], _, h1, h2 => by cases h1
  | _ :: _, _ :: _, [], h1, h2 => by cases h2
  | a :: x, b :: y, c :: z, h1, h2 => by
    rw [HT.lexLt_cons] at h1 h2 ⊢
    by_cases e1 : b = a
    · rw [if_pos e1] at h1
      by_cases e2 : c = b
      · rw [if_pos e2] at h2
        rw [if_pos (e2.trans e1)]
        exact lex_tr x y z h1 h2
      · rw [if_neg e2] at h2
        rw [if_neg (fun q => e2 (q.trans e1.symm))]
        have := of_decide_eq_false h2
        exact decide_eq_false (by omega)
    · rw [if_neg e1] at h1
      have h1 := of_decide_eq_false h1
      by_cases e2 : c = b
      · rw [if_neg (fun q => e1 (e2.symm.trans q))]
        exact decide_eq_false (by omega)
      · rw [if_neg e2] at h2
        have h2 := of_decide_eq_false h2
        rw [if_neg (by omega)]
        exact decide_eq_false (by omega)
theorem lex_anti : ∀ x y : List Int, HT.lexLt x y = false → HT.lexLt y x = false → x = y
  | [], [], _, _ => rfl
  | [], _ :: _, h, _ => by cases h
  | _ :: _, [], _, h => by cases h
  | a :: x, b :: y, h1, h2 => by
    rw [HT.lexLt_cons] at h1 h2
    by_cases e : a = b
    · rw [if_pos e] at h1
      rw [if_pos e.symm] at h2
      rw [e, lex_anti x y h1 h2]
    · rw [if_neg e] at h1
      rw [if_neg (Ne.symm e)] at h2
      have := of_decide_eq_false h1
      have := of_decide_eq_false h2
      omega
def insL (x : List Int) : List (List Int) → List (List Int)
  | [] => [x]
  | y :: r => if HT.lexLt y x = true then y :: insL x r else x :: y :: r
def sortL : List (List Int) → List (List Int)
  | [] => []
  | x :: r => insL x (sortL r)
theorem insL_perm (x : List Int) : ∀ r, (insL x r).Perm (x :: r)
  | [] => List.Perm.refl _
  | y :: r => by
    unfold insL
    split
    · exact ((insL_perm x r).cons y).trans (List.Perm.swap x y r)
    · exact List.Perm.refl _
theorem sortL_perm : ∀ r, (sortL r).Perm r
  | [] => List.Perm.refl _
  | x :: r => (insL_perm x (sortL r)).trans ((sortL_perm r).cons x)
abbrev SL (l : List (List Int)) : Prop := l.Pairwise fun a b => HT.lexLt b a = false
theorem insL_sorted (x : List Int) : ∀ r, SL r → SL (insL x r)
  | [], _ => List.pairwise_singleton _ _
  | y :: r, h => by
    obtain ⟨h1, h2⟩ := List.pairwise_cons.mp h
    unfold insL
    split
    · rename_i hyx
      refine List.pairwise_cons.mpr ⟨fun z hz => ?_, insL_sorted x r h2⟩
      rcases List.mem_cons.mp ((insL_perm x r).mem_iff.mp hz) with rfl | hz
      · exact lex_asym _ _ hyx
      · exact h1 z hz
    · rename_i hyx
      have hyx : HT.lexLt y x = false := by simpa using hyx
      refine List.pairwise_cons.mpr ⟨fun z hz => ?_, h⟩
      rcases List.mem_cons.mp hz with rfl | hz
      · exact hyx
      · exact lex_tr x y z hyx (h1 z hz)
theorem sortL_sorted : ∀ r, SL (sortL r)
  | [] => List.Pairwise.nil
  | x :: r => insL_sorted x _ (sortL_sorted r)
theorem SL.uniq : ∀ {a b : List (List Int)}, SL a → SL b → a.Perm b → a = b
  | [], b, _, _, p => (List.Perm.nil_eq p)
  | x :: a, [], _, _, p => absurd p.length_eq (by simp)
  | x :: a, y :: b, ha, hb, p => by
    obtain ⟨a1, a2⟩ := List.pairwise_cons.mp ha
    obtain ⟨b1, b2⟩ := List.pairwise_cons.mp hb
    have e : x = y := by
      have hx := p.mem_iff.mp List.mem_cons_self
      have hy := p.mem_iff.mpr List.mem_cons_self
      rcases List.mem_cons.mp hx with e | hx
      · exact e
      · rcases List.mem_cons.mp hy with e | hy
        · exact e.symm
        · exact lex_anti x y (b1 x hx) (a1 y hy)
    subst e
    rw [SL.uniq a2 b2 p.cons_inv]
theorem sortL_of {a b : List (List Int)} (h : SL a) (p : a.Perm b) : a = sortL b := SL.uniq h (sortL_sorted b) (p.trans (sortL_perm b).symm)
section
variable {prog : Program} {w : World} {A : Around} {E : Value → Shared → Prop} {s : Shared}
theorem lex_kat {Q : Bool → Shared → Prop} : ∀ (vs us : List Value) (ns ms : List Int) (i : Nat), IntsAre vs ns → IntsAre us ms → Q (HT.lexLt ns ms) s → PySem.W.KatLex prog w A true (decide (vs.length < us.length)) Q (vs.zip us) i s
  | _, _, _, _, i, .nil, .nil, h => h
  | _, _, _, _, i, .nil, .cons _ _ _, h => by
    refine PySem.W.kat_nil ?_
    rw [decide_eq_true (by simp)]
    exact h
  | _, _, _, _, i, .cons _ _ _, .nil, h => by
    refine PySem.W.kat_nil ?_
    rw [decide_eq_false (by simp)]
    exact h
  | _, _, _, _, i, .cons (vs := vs) (ns := ns) x t r, .cons (vs := us) (ns := ms) y u r', h => by
    have hl : decide ((Value.int x t :: vs).length < (Value.int y u :: us).length) = decide (vs.length < us.length) := by
      simp only [List.length_cons, Nat.add_lt_add_iff_right]
    rw [hl, List.zip_cons_cons]
    rw [HT.lexLt_cons] at h
    refine PySem.W.kat_cons (SeqAt.EqAt.int_int x t y u prog w _ _ ?_)
    refine PySem.W.kat_go (fun e1 => ?_) (fun e1 => ?_)
    · have ex : x = y := by simpa using e1
      rw [if_pos ex] at h
      exact PySem.W.kat_yes (lex_kat vs us ns ms (i + 1) r r' h)
    · have ex : ¬ x = y := by simpa using e1
      rw [if_neg ex] at h
      exact PySem.W.kat_no (TS.oneLt_ints _ h)
theorem lex_cmp {vs : List Value} {k : Value → List Int} (hp : ∀ v ∈ vs, TS.TupInts s.heap v (k v)) : Cmp prog w A s (tuples' true) (fun p => p.1 ∈ vs) (lt2 fun v u => HT.lexLt (k v) (k u)) := by
  intro p q hm hm'
  obtain ⟨a, xs, e, ⟨o, ho, hc, n, hd⟩, i⟩ := hp _ hm
  obtain ⟨a', xs', e', ⟨o', ho', hc', n', hd'⟩, i'⟩ := hp _ hm'
  show wpAny (model prog w) A (keyLt' (tuples' true) p.1 q.1) (fun r s' => s' = s ∧ r = HT.lexLt (k p.1) (k q.1)) (fun _ _ => False) s
  rw [e, e'] at *
  refine PySem.W.kat_lt ho hd ho' hd' ?_
  have := lex_kat (prog := prog) (w := w) (A := A) (s := s) (Q := fun r s' => s' = s ∧ r = HT.lexLt (k (.ref a)) (k (.ref a'))) xs.toList xs'.toList _ _ 0 i i' ⟨rfl, rfl⟩
  simpa using this
theorem lex_firsts {h : Heap} {k : Value → List Int} : ∀ vs : List Value, (∀ v ∈ vs, TS.TupInts h v (k v) ∧ k v ≠ []) → ∃ fs, PySem.W.KatTups h vs fs ∧ fs.length = vs.length ∧ ∀ f, f ∈ fs → ∃ n t, f = Value.int n t
  | [], _ => ⟨[], PySem.W.KatTups.nil, rfl, fun f hf => by simp at hf⟩
  | v :: vs, x => by
    obtain ⟨fs, kk, hl, hi⟩ := lex_firsts vs fun u hu => x u (List.mem_cons_of_mem _ hu)
    obtain ⟨⟨a, xs, rfl, ⟨o, ho, hc, n, hdt⟩, i⟩, hne⟩ := x v (List.mem_cons_self ..)
    obtain ⟨y, ys, e⟩ : ∃ y ys, xs.toList = y :: ys := by
      cases q : xs.toList with
      | nil =>
        rw [q] at i
        have l := i.length
        exact absurd (List.eq_nil_of_length_eq_zero l.symm) hne
      | cons y ys => exact ⟨y, ys, rfl⟩
    obtain ⟨m, t, hy⟩ := i.all y (by rw [e]; exact List.mem_cons_self ..)
    refine ⟨y :: fs, PySem.W.KatTups.cons ho hc hdt ?_ kk, by simp [hl], ?_⟩
    · have z := congrArg (fun l : List Value => l[0]?) e
      simpa using z
    · intro f hf
      rcases List.mem_cons.mp hf with rfl | hf
      · exact ⟨m, t, hy⟩
      · exact hi f hf
theorem lex_sortable {a : Addr} {vs : List Value} {k : Value → List Int} (h0 : 0 < vs.length) (hp : ∀ v ∈ vs, TS.TupInts s.heap v (k v) ∧ k v ≠ []) (ha : ∀ o, s.heap.get? a = some o → o.cls ≠ .type "tuple") : SortableO prog w A s a vs fun v u => HT.lexLt (k v) (k u) := by
  intro h' keep
  have hp' : ∀ v ∈ vs, TS.TupInts h' v (k v) ∧ k v ≠ [] := fun v hm => ⟨(hp v hm).1.keeps fun b o e c => keep b o (fun z => by subst z; exact ha o e c) e, (hp v hm).2⟩
  obtain ⟨fs, h1, h2, h3⟩ := lex_firsts vs hp'
  refine ⟨tuples' true, fun Q E hq => ?_, lex_cmp fun v hm => (hp' v hm).1⟩
  refine PySem.W.kat_kind (T := .type "int") h1 (by omega) (fun f hm => ?_) (by rfl) ?_
  · obtain ⟨x, t, rfl⟩ := h3 f hm
    exact PySem.W.Looks.now
  · have e : (Value.type "int" != Value.type "tuple") = true := by first | decide +kernel | rfl | decide
    rw [e]
    exact hq
theorem lex_swo (k : Value → List Int) : Swo fun v u => HT.lexLt (k v) (k u) := ⟨fun x y h => lex_asym _ _ h, fun x y z h1 h2 => lex_tr _ _ _ h1 h2⟩
theorem sorted_lex {l : Addr} {vs : List Value} {k : Value → List Int} {Q : Value → Shared → Prop} (hl : s.heap.IsList l vs.toArray) (hz : vs.length ≤ sizeLine) (hp : 2 ≤ vs.length → ∀ v ∈ vs, TS.TupInts s.heap v (k v) ∧ k v ≠ [])
    (h : ∀ (h' : Heap) (d : Addr) (out : List Value), (out.Pairwise fun v u => HT.lexLt (k u) (k v) = false) → out.Perm vs → (∀ b o, s.heap.get? b = some o → h'.get? b = some o) → s.heap.objs.size ≤ d → (∃ n, h'.get? d = some (seqObj "list" out.toArray n)) → Q (.ref d) { s with heap := h' }) :
    wpAny (model prog w) A (call (.builtin "sorted") [.ref l]) Q E s := by
  refine sorted_ord (lex_swo k) hl hz (fun h2 h₁ a ha kk => ?_) fun out hs hb => ?_
  · refine lex_sortable (s := { s with heap := h₁ }) (by omega) (fun v hm => ⟨(hp h2 v hm).1.keeps fun b o e _ => (kk b o e).2, (hp h2 v hm).2⟩) fun o e => ?_
    have e' : some o = some (seqObj "list" vs.toArray 0) := e.symm.trans ha
    cases e'
    intro c
    exact absurd (Value.type.inj c) (by decide)
  · exact h _ _ out hs hb.perm (fun b o e => sortedAll_old e) (Nat.le_succ _) (sortedAll_at s.heap vs out.toArray)
end
end MM

/-! MM: sorted, backward slices of tuples. -/
namespace MM
open PySem PySem.Spec PyProof.Rows L2

section
variable {C : Ctx} {X : Cx}
/-- sorted of a list of tuples of ints: their addresses, with the ints -/
def rSortedX (K : PySem.W.Frag) : List V → Hp → VK → Prop := fun vs H Q => ∃ (a : Addr) (L : List (Addr × List Int)), vs = [V.ref a] ∧ SqL K H a (L.map fun p => V.ref p.1) ∧ (∀ p ∈ L, SqT K H p.1 (p.2.map V.int)) ∧ (2 ≤ L.length → ∀ p ∈ L, p.2 ≠ []) ∧
  ∀ (M : List (Addr × List Int)) p, (M.Pairwise fun x y => HT.lexLt y.2 x.2 = false) → M.Perm L → H p = none → Q (.ref p) (upd H p (.lst (M.map fun p => V.ref p.1)))
def keyIn (L : List (Addr × List Int)) : Value → List Int
  | .ref t => ((L.find? fun p => p.1 == t).map (·.2)).getD []
  | _ => []
def adrOf : Value → Addr
  | .ref t => t
  | _ => 0
theorem keyIn_of {L : List (Addr × List Int)} (hu : ∀ p ∈ L, ∀ q ∈ L, p.1 = q.1 → p.2 = q.2) {p : Addr × List Int} (h : p ∈ L) : keyIn L (.ref p.1) = p.2 := by
  show ((L.find? fun q => q.1 == p.1).map (·.2)).getD [] = p.2
  cases e : L.find? (fun q => q.1 == p.1) with
  | none => exact absurd (List.find?_eq_none.mp e p h) (by simp)
  | some q =>
    have h1 := List.mem_of_find?_eq_some e
    have h2 := List.find?_some e
    exact hu q h1 p h (by simpa using h2)
theorem valsRef : ∀ {L : List (Addr × List Int)} {us : List Value}, Vals (L.map fun p => V.ref p.1) us → us = L.map fun p => Value.ref p.1
  | [], _, h => by cases h; rfl
  | p :: L, _, h => by
    cases h with
    | cons r rr =>
      have e : _ = Value.ref p.1 := r
      rw [e, valsRef rr]
      rfl
theorem mapInt_inj : ∀ {a b : List Int}, a.map V.int = b.map V.int → a = b
  | [], [], _ => rfl
  | [], _ :: _, h => by cases h
  | _ :: _, [], h => by cases h
  | x :: a, y :: b, h => by
    rw [List.map_cons, List.map_cons] at h
    injection h with h1 h2
    injection h1 with h1
    rw [h1, mapInt_inj h2]
theorem cr_sortedX : CallR X (.builtin "sorted") (rSortedX X.K) := by
  intro pins s σ H vs us Q I r h
  obtain ⟨a, L, rfl, hs, hx, hne, q⟩ := h
  obtain ⟨its, rv, hl, hz⟩ := I.list hs
  obtain ⟨u, rfl, ru⟩ := vals1 r
  obtain rfl : u = Value.ref a := ru
  have e1 := valsRef rv
  have hu : ∀ p ∈ L, ∀ q ∈ L, p.1 = q.1 → p.2 = q.2 := fun p hp q hq e => by
    have h1 := hx p hp
    have h2 := hx q hq
    rw [← e] at h2
    exact mapInt_inj (I.tuple_inj h1 h2)
  have hk := fun {p} h => keyIn_of hu (p := p) h
  have hlen : its.length = L.length := by rw [e1, List.length_map]
  refine sorted_lex (k := keyIn L) hl.isList (by rw [hlen]; rw [List.length_map] at hz; exact hz) (fun h2 v hv => ?_) fun h' d out h1 h2 kp hd hn => ?_
  · rw [e1] at hv
    obtain ⟨p, hp, rfl⟩ := List.mem_map.mp hv
    obtain ⟨its2, r2, it2, _⟩ := I.tuple (hx p hp)
    rw [hk hp]
    exact ⟨⟨p.1, its2.toArray, rfl, it2, Vals.ints r2⟩, hne (by rw [← hlen]; exact h2) p hp⟩
  · have h3 : ∀ u ∈ out, ∃ p ∈ L, u = Value.ref p.1 := fun u hu => by
      have := h2.mem_iff.mp hu
      rw [e1] at this
      obtain ⟨p, hp, e⟩ := List.mem_map.mp this
      exact ⟨p, hp, e.symm⟩
    obtain ⟨n, hn⟩ := hn
    have em : ∀ l : List Value, (∀ u ∈ l, ∃ p ∈ L, u = Value.ref p.1) → Vals ((l.map fun u => (adrOf u, keyIn L u)).map fun p => V.ref p.1) l := fun l => by
      induction l with
      | nil => intro _; exact .nil
      | cons u l ih =>
        intro hh
        obtain ⟨p, hp, e⟩ := hh u List.mem_cons_self
        refine .cons ?_ (ih fun w hw => hh w (List.mem_cons_of_mem _ hw))
        rw [e]
        exact (rfl : Value.ref _ = Value.ref _)
    have hb : (out.map fun u => (adrOf u, keyIn L u)).Perm L := by
      have := h2.map fun u => (adrOf u, keyIn L u)
      rw [e1, List.map_map] at this
      have e : L.map ((fun u => (adrOf u, keyIn L u)) ∘ fun p => Value.ref p.1) = L := by
        have : ∀ p ∈ L, ((fun u => (adrOf u, keyIn L u)) ∘ fun p : Addr × List Int => Value.ref p.1) p = p := fun p hp => by
          show (p.1, keyIn L (.ref p.1)) = p
          rw [hk hp]
        rw [List.map_congr_left this, List.map_id'']
        exact fun _ => rfl
      rw [e] at this
      exact this
    refine ⟨.ref d, upd H d (.lst ((out.map fun u => (adrOf u, keyIn L u)).map fun p => V.ref p.1)), I.laid (t' := s.toks) kp hd ⟨?_, out, n, em out h3, hn⟩, rfl, q _ d (List.pairwise_map.mpr h1) hb (I.hok.fresh hd)⟩
    rw [List.length_map, hb.length_eq, ← List.length_map (f := fun p : Addr × List Int => V.ref p.1)]
    exact hz
/-- tuples of ints, as lists of ints -/
def tupsD : List D → Option (List (List Int))
  | [] => some []
  | .tup xs :: r => match intsD xs, tupsD r with
    | some ns, some l => some (ns :: l)
    | _, _ => none
  | _ => none
theorem tups_of {F : Hp} : ∀ {vs : List V} {ds : List D} {l : List (List Int)}, RepL C F vs ds → tupsD ds = some l → ∃ L : List (Addr × List Int), vs = (L.map fun p => V.ref p.1) ∧ L.map (·.2) = l ∧ ∀ p ∈ L, SqT C.K F p.1 (p.2.map V.int)
  | _, _, _, .nil, h => by
    cases h
    exact ⟨[], rfl, rfl, fun p hp => absurd hp (by simp)⟩
  | _, _, _, .cons r rr, h => by
    unfold tupsD at h
    split at h
    · rename_i e; cases e
    · rename_i xs rest e
      cases e
      split at h
      · rename_i ns l h1 h2
        cases h
        obtain ⟨L, e1, e2, e3⟩ := tups_of rr h2
        cases r with
        | @tup a ws _ hs hr =>
          have := ints_of hr h1
          subst this
          refine ⟨(a, ns) :: L, by rw [e1]; rfl, by rw [List.map_cons, e2], fun p hp => ?_⟩
          rcases List.mem_cons.mp hp with rfl | hp
          · exact hs
          · exact e3 p hp
      · cases h
    · cases h
theorem rep_ints {F : Hp} : ∀ ns : List Int, RepL C F (ns.map V.int) (ns.map D.int)
  | [] => .nil
  | n :: ns => .cons (.int n) (rep_ints ns)
theorem rep_tups {F : Hp} : ∀ {M : List (Addr × List Int)}, (∀ p ∈ M, SqT C.K F p.1 (p.2.map V.int)) → RepL C F (M.map fun p => V.ref p.1) (M.map fun p => D.tup (p.2.map .int))
  | [], _ => .nil
  | p :: M, h => .cons (.tup (h p List.mem_cons_self) (rep_ints p.2)) (rep_tups fun q hq => h q (List.mem_cons_of_mem _ hq))
def sortOk (l : List (List Int)) : Bool := decide (l.length < 2) || l.all fun x => !x.isEmpty
def fSorted (ds : List D) : Option RV := match ds with
  | [.lst xs] => (tupsD xs).bind fun l => if sortOk l = true then some (.fr (.lst ((sortL l).map fun x => .tup (x.map .int)))) else none
  | _ => none
theorem n_sorted (hK : X.K = C.K) : PureN C (rSortedX X.K) fSorted := by
  intro F H xs ds R Q st r e q
  unfold fSorted at e
  split at e
  · obtain ⟨l, e1, e2⟩ := Option.bind_eq_some_iff.mp e
    split at e2
    · rename_i ok
      cases e2
      cases r with
      | cons r rr =>
        cases rr
        cases r with
        | @lst a vs _ hs hr =>
          obtain ⟨L, rfl, rfl, h3⟩ := tups_of hr e1
          refine ⟨a, L, rfl, by rw [hK]; exact SqL.of (st _ _ hs), fun p hp => by rw [hK]; exact SqT_mono st (h3 p hp), fun h2 p hp e => ?_, fun M p h1 h2 hp => ?_⟩
          · unfold sortOk at ok
            rw [Bool.or_eq_true] at ok
            rcases ok with ok | ok
            · have := of_decide_eq_true ok
              rw [List.length_map] at this
              omega
            · have := List.all_eq_true.mp ok p.2 (List.mem_map.mpr ⟨p, hp, rfl⟩)
              rw [e] at this
              cases this
          · have e : (sortL (L.map (·.2))).map (fun x => D.tup (x.map .int)) = M.map fun p => D.tup (p.2.map .int) := by
              rw [← sortL_of (List.pairwise_map.mpr h1) (h2.map _), List.map_map]
              rfl
            rw [e] at q
            obtain ⟨g, n⟩ := newL st (rep_tups fun p hp => h3 p (h2.mem_iff.mp hp)) hp
            exact q _ _ _ g n
    · cases e2
  · cases e
end

/-! ### t[::-1] -/
section
variable {prog : Program} {w : World} {A : Around} {E : Value → Shared → Prop} {s : Shared}
theorem applied_back {sl : Addr} {vl vu vs : Value} {n : Nat} {Q : Int × Int × Nat → Shared → Prop} (hs : s.heap.IsSliceOf sl vl vu vs) (pl : IsPart vl none) (pu : IsPart vu none) (ps : IsPart vs (some (-1)))
    (h : Q ((n : Int) - 1, -1, n) s) : wpAny (model prog w) A (Builtin.Slice.sliceApplied (.ref sl) (pure (n : Int))) Q E s := by
  obtain ⟨os, hos, hcs, hds⟩ := id hs
  unfold Builtin.Slice.sliceApplied
  unfold Builtin.Slice.sliceFields
  refine wpAny_bind (wpAny_bind (wpAny_field hos hds (x := vl) rfl (wpAny_bind (wpAny_field hos hds (x := vu) rfl (wpAny_bind (wpAny_field hos hds (x := vs) rfl (wpAny_pure ?_)))))))
  refine wpAny_bind (HT.slicePart_ ps ?_)
  show wpAny _ _ (if ((-1 : Int) == 0) = true then _ else _) _ _ s
  rw [if_neg (by decide)]
  refine wpAny_bind (HT.slicePart_ pl (wpAny_bind (HT.slicePart_ pu (wpAny_bind (wpAny_pure ?_)))))
  have e1 : Builtin.Slice.sliceAdjust none none (-1) (n : Int) = ((n : Int) - 1, -1) := by
    unfold Builtin.Slice.sliceAdjust
    rfl
  have e2 : Builtin.Slice.slicePlaces ((n : Int) - 1) (-1) (-1) = n := by
    unfold Builtin.Slice.slicePlaces
    rw [if_neg (by decide)]
    have : ((n : Int) - 1 - -1 - 1) / (- -1) = (n : Int) - 1 := by
      rw [show (- -1 : Int) = 1 by decide, Int.ediv_one]
      omega
    rw [this]
    split <;> omega
  show wpAny _ _ (match Builtin.Slice.sliceAdjust none none (-1) (n : Int) with | (lo, hi) => pure (lo, (-1 : Int), Builtin.Slice.slicePlaces lo hi (-1))) _ _ s
  rw [e1]
  show wpAny _ _ (pure ((n : Int) - 1, (-1 : Int), Builtin.Slice.slicePlaces ((n : Int) - 1) (-1) (-1))) _ _ s
  rw [e2]
  exact wpAny_pure h
theorem pick_back (xs : Array Value) : ((List.range xs.size).filterMap fun (m : Nat) => xs[(((xs.size : Int) - 1) + (m : Int) * -1).toNat]?).toArray = xs.toList.reverse.toArray := by
  have e : (fun (m : Nat) => xs[(((xs.size : Int) - 1) + (m : Int) * -1).toNat]?) = (fun k => xs[k]?) ∘ fun m => xs.size - 1 - m := by
    funext m
    have : (((xs.size : Int) - 1) + (m : Int) * -1).toNat = xs.size - 1 - m := by omega
    show xs[(((xs.size : Int) - 1) + (m : Int) * -1).toNat]? = xs[xs.size - 1 - m]?
    rw [this]
  rw [e, ← List.filterMap_map, PySem.W.krv_range, List.filterMap_reverse, PySem.W.krv_all]
theorem tuple_back {t sl : Addr} {items : Array Value} {vl vu vs : Value} {Q : Value → Shared → Prop} (ht : IsTup s.heap t items) (hs : s.heap.IsSliceOf sl vl vu vs) (pl : IsPart vl none) (pu : IsPart vu none) (ps : IsPart vs (some (-1)))
    (h : Q (.ref s.heap.objs.size) { s with heap := s.heap.push { cls := .type "tuple", data := .seq items.toList.reverse.toArray } })
    (hsz : items.size ≤ sizeLine) : wpAny (model prog w) A (getItem (.ref t) (.ref sl)) Q E s := by
  have hok : sizeOk (.seq items.toList.reverse.toArray) := by
    show items.toList.reverse.toArray.size ≤ sizeLine
    rw [List.size_toArray, List.length_reverse, Array.length_toList]
    exact hsz
  obtain ⟨os, hos, hcs, hds⟩ := id hs
  have hTs : s.TypeIs (.ref sl) "slice" := ⟨os, hos, hcs⟩
  unfold getItem
  try with_reducible refine wpAny_holding ?_
  first | refine wpAny_bind (wpAny_pure ?_) | skip
  refine wpAny_bind (wpAny_sequenceKey ht.typeIs (by decide) ?_)
  refine wpAny_bind (wpAny_callSpecial?_slot (name := Str.ofString "__getitem__") ht.typeIs PyProof.Rows.slot_tuple_getitem
    (wpAny_call_entry PyProof.Rows.slot_tuple_getitem ht.typeIs PyProof.Rows.entry_tuple_getitem ?_ (PyProof.Rows.args_tuple_getitem _ _)))
  show wpAny _ _ (Builtin.Tuple.tupleItemsOf (.ref t) >>= _) _ _ s
  refine wpAny_bind (tupleItemsOf_ ht ?_)
  refine wpAny_bind (wpAny_typeOf hTs ?_)
  rw [if_pos (by decide)]
  refine wpAny_bind (applied_back hs pl pu ps ?_)
  show wpAny _ _ (if (((items.size : Int) - 1 == 0) && (-1 : Int) == 1 && items.size == items.size) = true then _ else _) _ _ s
  have hno : ¬ ((((items.size : Int) - 1 == 0) && (-1 : Int) == 1 && items.size == items.size) = true) := by
    rw [show ((-1 : Int) == 1) = false by decide, Bool.and_false, Bool.false_and]
    exact Bool.false_ne_true
  rw [if_neg hno, pick_back]
  first
    | exact wpAny_bind (m := Builtin.Tuple.tupleExact _) (wpAny_newObj_type (wpAny_pure ⟨_, rfl, wpAny_pure h⟩) hok)
    | exact wpAny_bind (m := Builtin.Tuple.tupleExact _) (wpAny_newObj_type (wpAny_bind (wpAny_pure (wpAny_pure ⟨_, rfl, wpAny_pure h⟩))) hok)
    | exact wpAny_bind (wpAny_bind (m := Builtin.Tuple.tupleExact _) (wpAny_newObj_type (wpAny_pure (wpAny_pure ⟨_, rfl, wpAny_pure h⟩)) hok))
    | exact wpAny_bind (wpAny_bind (m := Builtin.Tuple.tupleExact _) (wpAny_newObj_type (wpAny_pure ⟨_, rfl, wpAny_pure h⟩) hok))
end
section
variable {C : Ctx} {X : Cx} {B : Base} {W : WX}
def tRevX (K : PySem.W.Frag) (te : TE) : TE := fun σ H Q => te σ H fun x H1 => (∃ a xs, x = .ref a ∧ SqL K H1 a xs ∧ ∀ p, H1 p = none → Q (.ref p) (upd H1 p (.lst xs.reverse))) ∨ (∃ a xs, x = .ref a ∧ SqT K H1 a xs ∧ ∀ p, H1 p = none → Q (.ref p) (upd H1 p (.tup xs.reverse)))
theorem pe_revX {e : Expr} {te : TE} {k : Nat} {p1 p2 p3 pos : Pos} (he : PE X e te) : PE X (.Subscript e (.Slice none none (some (.UnaryOp .USub (.Constant (.int 1) k p1) p2)) p3) pos) (tRevX X.K te) := by
  refine ⟨fun pins s σ H Q I h => ?_⟩
  refine Subscript_ (thn (he.run pins s σ H _ I h) fun v s1 ⟨x, H1, I1, r1, q1⟩ => ?_)
  have hst : PO X (some (.UnaryOp .USub (.Constant (.int 1) k p1) p2)) (tPart (tUn (rU fun i => .int (-i)) (tC (.int 1)))) := po_some (pe_un un_neg pe_int)
  refine wpAny_Slice (thn (po_none.run pins s1 σ H1 (fun o H2 => o = none ∧ H2 = H1) I1 ⟨rfl, rfl⟩) fun vl s2 ⟨l, H2, I2, pl, el, e2⟩ => ?_)
  subst el e2
  refine thn (po_none.run pins s2 σ H2 (fun o H3 => o = none ∧ H3 = H2) I2 ⟨rfl, rfl⟩) fun vu s3 ⟨u, H3, I3, pu, eu, e3⟩ => ?_
  subst eu e3
  refine thn (hst.run pins s3 σ H3 (fun o H4 => o = some (-1) ∧ H4 = H3) I3 ⟨1, rfl, -1, rfl, rfl, rfl⟩) fun vs s4 ⟨o, H4, I4, ps, eo, e4⟩ => ?_
  subst eo e4
  have I5 : Inv X pins σ H4 { s4 with heap := s4.heap.push { cls := .type "slice", data := .fields #[vl, vu, vs] } } := I4.kept (t' := s4.toks) fun b ob q => Heap.get?_push_of_some _ q
  show wpAny (model X.prog X.w) X.A (subscriptTail e (.Slice none none (some (.UnaryOp .USub (.Constant (.int 1) k p1) p2)) p3) v (.ref s4.heap.objs.size)) (EP X pins σ Q) X.xe { s4 with heap := s4.heap.push { cls := .type "slice", data := .fields #[vl, vu, vs] } }
  rcases q1 with ⟨a, xs, rfl, hx, q⟩ | ⟨a, xs, rfl, hx, q⟩ <;> cases r1
  · obtain ⟨its, r, ht, hz⟩ := I5.list hx
    have hlen := r.length
    refine tail_any (ops := [.ref a, .ref s4.heap.objs.size]) ht.isList.typeIs (PySem.slot_list_getitem.lookup) ?_ (by with_unfolding_all rfl)
    refine wpAny_getItem_list_slice ht.isList (Heap.IsSliceOf.new _ vl vu vs) pl pu ps (by decide) ?_ (by rw [List.size_toArray]; omega)
    rw [PySem.W.krv_pick]
    refine ⟨.ref _, _, I5.laid (t' := s4.toks) (o := .lst xs.reverse) (fun b ob q => Heap.get?_push_of_some _ q) (Nat.le_refl _) ?_, rfl, q _ (I5.hok.fresh (Nat.le_refl _))⟩
    exact ⟨by rw [List.length_reverse]; exact hz, _, 0, r.reverse, Heap.get?_push_size _ rfl⟩
  · obtain ⟨its, r, ht, hz⟩ := I5.tuple hx
    have hlen := r.length
    refine tail_any (ops := [.ref a, .ref s4.heap.objs.size]) ht.typeIs (PyProof.Rows.slot_tuple_getitem.lookup) ?_ (by with_unfolding_all rfl)
    refine tuple_back ht (Heap.IsSliceOf.new _ vl vu vs) pl pu ps ?_ (by rw [List.size_toArray]; omega)
    refine ⟨.ref _, _, I5.laid (t' := s4.toks) (o := .tup xs.reverse) (fun b ob q => Heap.get?_push_of_some _ q) (Nat.le_refl _) ?_, rfl, q _ (I5.hok.fresh (Nat.le_refl _))⟩
    exact ⟨by rw [List.length_reverse]; exact hz, _, r.reverse, IsTup.new _ _⟩
def eRevX (ma : M RV) : M RV := fun E => (ma E).bind fun r E1 => match r.d with
  | .lst xs => .ok (.fr (.lst xs.reverse)) E1
  | .tup xs => .ok (.sh (.tup xs.reverse)) E1
  | _ => .stuck
variable {a : Expr} {ma : M RV} {pos : Pos}
theorem me_revX (hK : X.K = C.K) {k : Nat} {p1 p2 p3 : Pos} (ha : PE X a (tE C B W ma)) : PE X (.Subscript a (.Slice none none (some (.UnaryOp .USub (.Constant (.int 1) k p1) p2)) p3) pos) (tE C B W (eRevX ma)) := by
  refine PE.imp (pe_revX ha) fun σ H Q ⟨F, E, S, q⟩ => ?_
  refine tE_go S q fun r E1 v F1 H1 S1 st1 r1 p1 => ?_
  cases hd : r.d with
  | lst xs =>
    rw [hd] at r1 p1
    cases r1 with
    | @lst a vs _ hs hr =>
      refine .inl ⟨a, vs, rfl, SqL.of (S1.fh _ _ hs), fun p hp => ?_⟩
      obtain ⟨g, n⟩ := newL S1.fh hr.reverse hp
      obtain ⟨S2, rr⟩ := S1.newR g n
      exact p1 _ _ _ S2 (st1.trans g.fs) rr
  | tup xs =>
    rw [hd] at r1 p1
    cases r1 with
    | @tup a vs _ hs hr =>
      refine .inr ⟨a, vs, rfl, by rw [hK]; exact SqT_mono S1.fh hs, fun p hp => ?_⟩
      obtain ⟨g, n⟩ := newT S1.fh hr.reverse hp
      obtain ⟨S2, rr⟩ := S1.newR g n
      exact p1 _ _ _ S2 (st1.trans g.fs) rr
  | _ => rw [hd] at p1; exact p1.elim
end
end MM

/-! MM: what is computed, rewritten. -/
namespace MM
open PySem PySem.Spec PyProof.Rows L2
theorem cEq_int (i j : Int) : cEq (.int i) (.int j) = some (i == j) := by
  simp only [cEq, toPy, PyData.eqv]
  rw [if_pos]
  exact ⟨rfl, rfl⟩
end MM
namespace MM
def FO.isOk : FO → Bool
  | .ok _ => true
  | _ => false
/-- the list that it made -/
def FO.list : FO → List D
  | .ok (.fr (.lst xs)) => xs
  | .ok (.sh (.lst xs)) => xs
  | _ => []
def FO.isFrL : FO → Bool
  | .ok (.fr (.lst _)) => true
  | _ => false
def FO.isInt : FO → Bool
  | .ok (.sh (.int _)) => true
  | _ => false
def FO.int : FO → Int
  | .ok (.sh (.int i)) => i
  | _ => 0
def FO.isTrue : FO → Bool
  | .ok (.sh (.bl true)) => true
  | _ => false
end MM

/-! Printed by gen.py: what the linked text's defs compute. -/
namespace K00
open PySem PySem.Spec PyProof.Rows L2 MM
def topS (i : Nat) : Stmt := PySem.Challenge.pw_bracketroads_k00_whole_integers_choices.main.body.getD i (.Pass ⟨0, 0, 0, 0⟩)
def nms : List Str := ((["Fault", "Malformed", "Refused", "is_integer", "is_row", "check_from", "common", "common_of", "least_multiple", "power", "sign_of", "choose", "factorial", "choices_of", "orders_of", "order_sign", "divisors", "mobius", "partitions_of", "is_partition", "flipped", "is_over", "_law_state", "_law_take", "_law_says", "_law_is_whole", "_law_same", "_law_told", "_law_all_malformed", "_law_choices"] : List Str) ++ (["_law_divisors", "_law_mobius", "_law_orders", "_law_partitions", "law"] : List Str))
def faOf (K : PySem.W.Frag) (i : Nat) : Addr := He.ga K (nms.getD i "")
abbrev CC (K : PySem.W.Frag) : MM.Ctx := ⟨K, faOf K⟩
abbrev FnP (K : PySem.W.Frag) (x : Str) (st : Stmt) (f : Addr) : Prop := ∃ fd, FunD K x x (defArgs st) (defBody st) (defScope st) [] [] f fd
abbrev s_is_integer : Stmt := topS 5
theorem sc_is_integer : FnScope ["value"] ["value"] (defScope s_is_integer) := ⟨rfl, rfl, rfl, by decide +kernel, rfl, by decide +kernel, by decide +kernel⟩
abbrev s_common : Stmt := topS 8
theorem sc_common : FnScope ["a", "b"] ["a", "b"] (defScope s_common) := ⟨rfl, rfl, rfl, by decide +kernel, rfl, by decide +kernel, by decide +kernel⟩
abbrev s_power : Stmt := topS 11
theorem sc_power : FnScope ["a", "k", "found", "_"] ["a", "k"] (defScope s_power) := ⟨rfl, rfl, rfl, by decide +kernel, rfl, by decide +kernel, by decide +kernel⟩
abbrev s_sign_of : Stmt := topS 12
theorem sc_sign_of : FnScope ["c"] ["c"] (defScope s_sign_of) := ⟨rfl, rfl, rfl, by decide +kernel, rfl, by decide +kernel, by decide +kernel⟩
abbrev s_choose : Stmt := topS 13
theorem sc_choose : FnScope ["n", "k", "found", "i"] ["n", "k"] (defScope s_choose) := ⟨rfl, rfl, rfl, by decide +kernel, rfl, by decide +kernel, by decide +kernel⟩
abbrev s_factorial : Stmt := topS 14
theorem sc_factorial : FnScope ["n", "found", "k"] ["n"] (defScope s_factorial) := ⟨rfl, rfl, rfl, by decide +kernel, rfl, by decide +kernel, by decide +kernel⟩
abbrev s_choices_of : Stmt := topS 15
theorem sc_choices_of : FnScope ["n", "k", "found", "_", "longer", "own", "low", "x"] ["n", "k"] (defScope s_choices_of) := ⟨rfl, rfl, rfl, by decide +kernel, rfl, by decide +kernel, by decide +kernel⟩
abbrev s_orders_of : Stmt := topS 16
theorem sc_orders_of : FnScope ["items", "found", "_", "longer", "own", "x"] ["items"] (defScope s_orders_of) := ⟨rfl, rfl, rfl, by decide +kernel, rfl, by decide +kernel, by decide +kernel⟩
abbrev s_order_sign : Stmt := topS 17
theorem sc_order_sign : FnScope ["order", "found", "i", "j"] ["order"] (defScope s_order_sign) := ⟨rfl, rfl, rfl, by decide +kernel, rfl, by decide +kernel, by decide +kernel⟩
abbrev s_divisors : Stmt := topS 18
theorem sc_divisors : FnScope ["n", "d"] ["n"] (defScope s_divisors) := ⟨rfl, rfl, rfl, by decide +kernel, rfl, by decide +kernel, by decide +kernel⟩
abbrev s_mobius : Stmt := topS 19
theorem sc_mobius : FnScope ["n", "found", "k"] ["n"] (defScope s_mobius) := ⟨rfl, rfl, rfl, by decide +kernel, rfl, by decide +kernel, by decide +kernel⟩
abbrev s_flipped : Stmt := topS 22
theorem sc_flipped : FnScope ["shape", "most", "k", "c"] ["shape"] (defScope s_flipped) := ⟨rfl, rfl, rfl, by decide +kernel, rfl, by decide +kernel, by decide +kernel⟩
abbrev s_is_over : Stmt := topS 23
theorem sc_is_over : FnScope ["one", "two", "n", "k"] ["one", "two"] (defScope s_is_over) := ⟨rfl, rfl, rfl, by decide +kernel, rfl, by decide +kernel, by decide +kernel⟩
abbrev s__law_state : Stmt := topS 25
theorem sc__law_state : FnScope ["script", "seed", "total", "cell"] ["script"] (defScope s__law_state) := ⟨rfl, rfl, rfl, by decide +kernel, rfl, by decide +kernel, by decide +kernel⟩
abbrev s__law_take : Stmt := topS 26
theorem sc__law_take : FnScope ["state", "m", "value"] ["state", "m"] (defScope s__law_take) := ⟨rfl, rfl, rfl, by decide +kernel, rfl, by decide +kernel, by decide +kernel⟩
abbrev s__law_says : Stmt := topS 27
theorem sc__law_says : FnScope ["value", "due"] ["value", "due"] (defScope s__law_says) := ⟨rfl, rfl, rfl, by decide +kernel, rfl, by decide +kernel, by decide +kernel⟩
abbrev s__law_is_whole : Stmt := topS 28
theorem sc__law_is_whole : FnScope ["value"] ["value"] (defScope s__law_is_whole) := ⟨rfl, rfl, rfl, by decide +kernel, rfl, by decide +kernel, by decide +kernel⟩
abbrev s__law_choices : Stmt := topS 32
theorem sc__law_choices : FnScope ["n", "k", "found", "t", "longer", "own", "x"] ["n", "k"] (defScope s__law_choices) := ⟨rfl, rfl, rfl, by decide +kernel, rfl, by decide +kernel, by decide +kernel⟩
abbrev s__law_divisors : Stmt := topS 33
theorem sc__law_divisors : FnScope ["n", "d"] ["n"] (defScope s__law_divisors) := ⟨rfl, rfl, rfl, by decide +kernel, rfl, by decide +kernel, by decide +kernel⟩
abbrev s__law_mobius : Stmt := topS 34
theorem sc__law_mobius : FnScope ["n", "rest", "found", "d"] ["n"] (defScope s__law_mobius) := ⟨rfl, rfl, rfl, by decide +kernel, rfl, by decide +kernel, by decide +kernel⟩
abbrev s__law_orders : Stmt := topS 35
theorem sc__law_orders : FnScope ["items", "found", "t", "longer", "own", "x"] ["items"] (defScope s__law_orders) := ⟨rfl, rfl, rfl, by decide +kernel, rfl, by decide +kernel, by decide +kernel⟩
abbrev s__law_partitions : Stmt := topS 36
theorem sc__law_partitions : FnScope ["n", "found", "c", "longer", "left", "own", "k"] ["n"] (defScope s__law_partitions) := ⟨rfl, rfl, rfl, by decide +kernel, rfl, by decide +kernel, by decide +kernel⟩
abbrev s_is_row : Stmt := topS 6
theorem sc_is_row : FnScope ["value", "c"] ["value"] (defScope s_is_row) := ⟨rfl, rfl, rfl, by decide +kernel, rfl, by decide +kernel, by decide +kernel⟩
abbrev s_check_from : Stmt := topS 7
theorem sc_check_from : FnScope ["n", "low", "high"] ["n", "low", "high"] (defScope s_check_from) := ⟨rfl, rfl, rfl, by decide +kernel, rfl, by decide +kernel, by decide +kernel⟩
abbrev s_common_of : Stmt := topS 9
theorem sc_common_of : FnScope ["row", "found", "c"] ["row"] (defScope s_common_of) := ⟨rfl, rfl, rfl, by decide +kernel, rfl, by decide +kernel, by decide +kernel⟩
abbrev s_least_multiple : Stmt := topS 10
theorem sc_least_multiple : FnScope ["row", "found", "c"] ["row"] (defScope s_least_multiple) := ⟨rfl, rfl, rfl, by decide +kernel, rfl, by decide +kernel, by decide +kernel⟩
abbrev s_partitions_of : Stmt := topS 20
theorem sc_partitions_of : FnScope ["n", "found", "line", "own", "left", "most", "c"] ["n"] (defScope s_partitions_of) := ⟨rfl, rfl, rfl, by decide +kernel, rfl, by decide +kernel, by decide +kernel⟩
abbrev s_is_partition : Stmt := topS 21
theorem sc_is_partition : FnScope ["value", "c", "a", "b"] ["value"] (defScope s_is_partition) := ⟨rfl, rfl, rfl, by decide +kernel, rfl, by decide +kernel, by decide +kernel⟩
abbrev s__law_told : Stmt := topS 30
theorem sc__law_told : FnScope ["act", "given", "refused"] ["act", "given"] (defScope s__law_told) := ⟨rfl, rfl, rfl, by decide +kernel, rfl, by decide +kernel, by decide +kernel⟩
abbrev s__law_same : Stmt := topS 29
theorem sc__law_same : FnScope ["one", "two", "k"] ["one", "two"] (defScope s__law_same) := ⟨rfl, rfl, rfl, by decide +kernel, rfl, by decide +kernel, by decide +kernel⟩
abbrev s__law_all_malformed : Stmt := topS 31
theorem sc__law_all_malformed : FnScope ["tried", "act", "given"] ["tried"] (defScope s__law_all_malformed) := ⟨rfl, rfl, rfl, by decide +kernel, rfl, by decide +kernel, by decide +kernel⟩
abbrev s_law : Stmt := topS 37
theorem sc_law : FnScope ((["script", "state", "a", "b", "n", "both", "row", "g", "c", "small", "most", "total", "k", "t", "product", "m", "size", "listed", "items", "orders", "own", "falls", "shapes", "one", "two", "value", "whole", "plain", "d", "bad"] : List Str) ++ (["i", "j", "x"] : List Str)) ["script"] (defScope s_law) := ⟨rfl, rfl, rfl, by decide +kernel, rfl, by decide +kernel, by decide +kernel⟩
/-- an exception class of the text -/
structure XF (K : PySem.W.Frag) (C : Addr) : Prop where
  e : PySem.W.excIn K C PySem.HandSPX.veTail "ValueError.__new__" = true ∧ PySem.W.keepIn K (.ref C) = true ∧ PySem.W.subIn K (.ref C) (.type "BaseException") = some true ∧ PySem.W.typeIn K (.ref C) = some (.type "type")
theorem XF.raises {X : Cx} {C : Addr} (x : XF X.K C) : Raises X (.ref C) := raises_own x.e.2.2.1 x.e.2.2.2
/-- which class is under which -/
def sub (i j : Nat) : Option Bool := match i, j with
  | 0, 0 => some true
  | 0, 1 => some false
  | 0, 2 => some false
  | 1, 0 => some true
  | 1, 1 => some true
  | 1, 2 => some false
  | 2, 0 => some true
  | 2, 1 => some false
  | 2, 2 => some true
  | _, _ => none
structure Txt (K : PySem.W.Frag) (mg : Str → Option Value) : Prop where
  f_is_integer : FnP K "is_integer" s_is_integer (faOf K 3)
  f_is_row : FnP K "is_row" s_is_row (faOf K 4)
  f_check_from : FnP K "check_from" s_check_from (faOf K 5)
  f_common : FnP K "common" s_common (faOf K 6)
  f_common_of : FnP K "common_of" s_common_of (faOf K 7)
  f_least_multiple : FnP K "least_multiple" s_least_multiple (faOf K 8)
  f_power : FnP K "power" s_power (faOf K 9)
  f_sign_of : FnP K "sign_of" s_sign_of (faOf K 10)
  f_choose : FnP K "choose" s_choose (faOf K 11)
  f_factorial : FnP K "factorial" s_factorial (faOf K 12)
  f_choices_of : FnP K "choices_of" s_choices_of (faOf K 13)
  f_orders_of : FnP K "orders_of" s_orders_of (faOf K 14)
  f_order_sign : FnP K "order_sign" s_order_sign (faOf K 15)
  f_divisors : FnP K "divisors" s_divisors (faOf K 16)
  f_mobius : FnP K "mobius" s_mobius (faOf K 17)
  f_partitions_of : FnP K "partitions_of" s_partitions_of (faOf K 18)
  f_is_partition : FnP K "is_partition" s_is_partition (faOf K 19)
  f_flipped : FnP K "flipped" s_flipped (faOf K 20)
  f_is_over : FnP K "is_over" s_is_over (faOf K 21)
  f__law_state : FnP K "_law_state" s__law_state (faOf K 22)
  f__law_take : FnP K "_law_take" s__law_take (faOf K 23)
  f__law_says : FnP K "_law_says" s__law_says (faOf K 24)
  f__law_is_whole : FnP K "_law_is_whole" s__law_is_whole (faOf K 25)
  f__law_same : FnP K "_law_same" s__law_same (faOf K 26)
  f__law_told : FnP K "_law_told" s__law_told (faOf K 27)
  f__law_all_malformed : FnP K "_law_all_malformed" s__law_all_malformed (faOf K 28)
  f__law_choices : FnP K "_law_choices" s__law_choices (faOf K 29)
  f__law_divisors : FnP K "_law_divisors" s__law_divisors (faOf K 30)
  f__law_mobius : FnP K "_law_mobius" s__law_mobius (faOf K 31)
  f__law_orders : FnP K "_law_orders" s__law_orders (faOf K 32)
  f__law_partitions : FnP K "_law_partitions" s__law_partitions (faOf K 33)
  f_law : FnP K "law" s_law (faOf K 34)
  g_Fault : mg "Fault" = some (.ref (faOf K 0))
  g_Malformed : mg "Malformed" = some (.ref (faOf K 1))
  g_Refused : mg "Refused" = some (.ref (faOf K 2))
  g_is_integer : mg "is_integer" = some (.ref (faOf K 3))
  g_is_row : mg "is_row" = some (.ref (faOf K 4))
  g_check_from : mg "check_from" = some (.ref (faOf K 5))
  g_common : mg "common" = some (.ref (faOf K 6))
  g_common_of : mg "common_of" = some (.ref (faOf K 7))
  g_least_multiple : mg "least_multiple" = some (.ref (faOf K 8))
  g_power : mg "power" = some (.ref (faOf K 9))
  g_sign_of : mg "sign_of" = some (.ref (faOf K 10))
  g_choose : mg "choose" = some (.ref (faOf K 11))
  g_factorial : mg "factorial" = some (.ref (faOf K 12))
  g_choices_of : mg "choices_of" = some (.ref (faOf K 13))
  g_orders_of : mg "orders_of" = some (.ref (faOf K 14))
  g_order_sign : mg "order_sign" = some (.ref (faOf K 15))
  g_divisors : mg "divisors" = some (.ref (faOf K 16))
  g_mobius : mg "mobius" = some (.ref (faOf K 17))
  g_partitions_of : mg "partitions_of" = some (.ref (faOf K 18))
  g_is_partition : mg "is_partition" = some (.ref (faOf K 19))
  g_flipped : mg "flipped" = some (.ref (faOf K 20))
  g_is_over : mg "is_over" = some (.ref (faOf K 21))
  g__law_state : mg "_law_state" = some (.ref (faOf K 22))
  g__law_take : mg "_law_take" = some (.ref (faOf K 23))
  g__law_says : mg "_law_says" = some (.ref (faOf K 24))
  g__law_is_whole : mg "_law_is_whole" = some (.ref (faOf K 25))
  g__law_same : mg "_law_same" = some (.ref (faOf K 26))
  g__law_told : mg "_law_told" = some (.ref (faOf K 27))
  g__law_all_malformed : mg "_law_all_malformed" = some (.ref (faOf K 28))
  g__law_choices : mg "_law_choices" = some (.ref (faOf K 29))
  g__law_divisors : mg "_law_divisors" = some (.ref (faOf K 30))
  g__law_mobius : mg "_law_mobius" = some (.ref (faOf K 31))
  g__law_orders : mg "_law_orders" = some (.ref (faOf K 32))
  g__law_partitions : mg "_law_partitions" = some (.ref (faOf K 33))
  g_law : mg "law" = some (.ref (faOf K 34))
  z_abs : mg "abs" = none
  z_all : mg "all" = none
  z_bool : mg "bool" = none
  z_int : mg "int" = none
  z_isinstance : mg "isinstance" = none
  z_len : mg "len" = none
  z_list : mg "list" = none
  z_max : mg "max" = none
  z_min : mg "min" = none
  z_range : mg "range" = none
  z_sorted : mg "sorted" = none
  z_str : mg "str" = none
  z_sum : mg "sum" = none
  z_tuple : mg "tuple" = none
  z_zip : mg "zip" = none
  x_Fault : XF K (faOf K 0)
  x_Malformed : XF K (faOf K 1)
  sub : ∀ i j b, sub i j = some b → PySem.W.exmOne K (.ref (faOf K i)) (.ref (faOf K j)) = some b
section
variable {P : Program} {w : World} {K : PySem.W.Frag} {mg : Str → Option Value} {base : Heap}
def m_is_integer : M Fl := sRet (eAnd (eN fIsi (aCons (eV 0) (aCons (eC (.ty .int)) (aNil)))) (eNot (eN fIsi (aCons (eV 0) (aCons (eC (.ty .bool)) (aNil))))))
def f_is_integer : List D → FO := mFn 1 m_is_integer
theorem ok_is_integer (T : Txt K mg) : Good (CC K) P w K mg base 1 3 1 (f_is_integer) := by
  obtain ⟨fd, F⟩ := T.f_is_integer
  exact ⟨fd, ["value"], fn_ok F sc_is_integer (fun cdv A outer s H E B hr => (ms_one (ms_ret (me_and (me_callB call_isi (n_isi rfl) (by rfl) T.z_isinstance (by decide +kernel) (ma_cons (me_var 0) (ma_cons (me_ty .int (by rfl) T.z_int (by decide +kernel)) ma_nil))) (me_one (me_not (me_callB call_isi (n_isi rfl) (by rfl) T.z_isinstance (by decide +kernel) (ma_cons (me_var 0) (ma_cons (me_ty .bool (by rfl) T.z_bool (by decide +kernel)) ma_nil))))))))), F.kp, F.bindsN fun _ _ _ _ _ _ us hl => match us, hl with | [_], _ => rfl⟩
def m_common : M Fl := sSeq (sPar 0 1 (aCons (eN fAbs (aCons (eV 0) (aNil))) (aCons (eN fAbs (aCons (eV 1) (aNil))) (aNil))))
      (sSeq (whL (t2 cNe (eV 1) (eC (.int 0)))
      (sPar 0 1 (aCons (eV 1) (aCons (e2 fMod (eV 0) (eV 1)) (aNil)))) 1000000000)
      (sRet (eGive 0)))
def f_common : List D → FO := mFn 2 m_common
theorem ok_common (T : Txt K mg) : Good (CC K) P w K mg base 1 6 2 (f_common) := by
  obtain ⟨fd, F⟩ := T.f_common
  exact ⟨fd, ["a", "b"], fn_ok F sc_common (fun cdv A outer s H E B hr => (ms_cons (ms_par (i := 0) (j := 1) rfl sc_common.nd rfl rfl (by decide) rfl rfl (ma_cons (me_callB call_abs n_abs (by rfl) T.z_abs (by decide +kernel) (ma_cons (me_var 0) ma_nil)) (ma_cons (me_callB call_abs n_abs (by rfl) T.z_abs (by decide +kernel) (ma_cons (me_var 1) ma_nil)) ma_nil)) (by rfl))
      (ms_cons (ms_while 1000000000 (passes_of rfl) (mt_cmp (op_neD hr.units) (p_ne rfl) (me_var 1) me_int (nomark _)) (ms_one (ms_par (i := 0) (j := 1) rfl sc_common.nd rfl rfl (by decide) rfl rfl (ma_cons (me_var 1) (ma_cons (me_op op_modN p_mod (me_var 0) (me_var 1)) ma_nil)) (by rfl))))
      (ms_one (ms_ret (me_give 0)))))), F.kp, F.bindsN fun _ _ _ _ _ _ us hl => match us, hl with | [_, _], _ => rfl⟩
def m_power : M Fl := sSeq (sAsg 2 (eC (.int 1)))
      (sSeq (sFor (iN rg1 (aCons (eV 1) (aNil))) (gNm 3)
      (sAsg 2 (e2 fMul (eV 2) (eV 0))))
      (sRet (eGive 2)))
def f_power : List D → FO := mFn 4 m_power
theorem ok_power (T : Txt K mg) : Good (CC K) P w K mg base 1 9 2 (f_power) := by
  obtain ⟨fd, F⟩ := T.f_power
  exact ⟨fd, ["a", "k"], fn_ok F sc_power (fun cdv A outer s H E B hr => (ms_cons (ms_set (i := 2) sc_power.nd rfl (by first | exact Or.inl rfl | exact Or.inr rfl) me_int)
      (ms_cons (ms_for (passes_of rfl) rfl (mi_range1 (by rfl) T.z_range (ma_cons (me_var 1) ma_nil)) (mg_name (i := 3) sc_power.nd rfl (by first | exact Or.inl rfl | exact Or.inr rfl)) (ms_one (ms_set (i := 2) sc_power.nd rfl (by first | exact Or.inl rfl | exact Or.inr rfl) (me_op op_mulA (p_mulA rfl) (me_var 2) (me_var 0)))))
      (ms_one (ms_ret (me_give 2)))))), F.kp, F.bindsN fun _ _ _ _ _ _ us hl => match us, hl with | [_, _], _ => rfl⟩
def m_sign_of : M Fl := sRet (eIf (t2 cGt (eV 0) (eC (.int 0))) (eC (.int 1)) (eIf (t2 cLt (eV 0) (eC (.int 0))) (e1 fNeg (eC (.int 1))) (eC (.int 0))))
def f_sign_of : List D → FO := mFn 1 m_sign_of
theorem ok_sign_of (T : Txt K mg) : Good (CC K) P w K mg base 1 10 1 (f_sign_of) := by
  obtain ⟨fd, F⟩ := T.f_sign_of
  exact ⟨fd, ["c"], fn_ok F sc_sign_of (fun cdv A outer s H E B hr => (ms_one (ms_ret (me_if (mt_cmp op_gt p_gt (me_var 0) me_int (nomark _)) me_int (me_if (mt_cmp op_lt p_lt (me_var 0) me_int (nomark _)) (me_e1 un_neg p_neg me_int) me_int))))), F.kp, F.bindsN fun _ _ _ _ _ _ us hl => match us, hl with | [_], _ => rfl⟩
def m_choose : M Fl := sSeq (sIf (MM.tOr (t2 cLt (eV 1) (eC (.int 0))) (t2 cGt (eV 1) (eV 0)))
      (sRet (eC (.int 0))) (sNx))
      (sSeq (sAsg 2 (eC (.int 1)))
      (sSeq (sFor (iN rg1 (aCons (eV 1) (aNil))) (gNm 3)
      (sAsg 2 (e2 fFdiv (e2 fMul (eV 2) (e2 fSub (eV 0) (eV 3))) (e2 fAdd (eV 3) (eC (.int 1))))))
      (sRet (eGive 2))))
def f_choose : List D → FO := mFn 4 m_choose
theorem ok_choose (T : Txt K mg) : Good (CC K) P w K mg base 1 11 2 (f_choose) := by
  obtain ⟨fd, F⟩ := T.f_choose
  exact ⟨fd, ["n", "k"], fn_ok F sc_choose (fun cdv A outer s H E B hr => (ms_cons (ms_if (PW.pt (mw_or (mt_cmp op_lt p_lt (me_var 1) me_int (nomark _)) (mw_o1 (mt_cmp op_gt p_gt (me_var 1) (me_var 0) (nomark _))))) (ms_one (ms_ret me_int)) ms_nil)
      (ms_cons (ms_set (i := 2) sc_choose.nd rfl (by first | exact Or.inl rfl | exact Or.inr rfl) me_int)
      (ms_cons (ms_for (passes_of rfl) rfl (mi_range1 (by rfl) T.z_range (ma_cons (me_var 1) ma_nil)) (mg_name (i := 3) sc_choose.nd rfl (by first | exact Or.inl rfl | exact Or.inr rfl)) (ms_one (ms_set (i := 2) sc_choose.nd rfl (by first | exact Or.inl rfl | exact Or.inr rfl) (me_op op_fdivX p_fdiv (me_op op_mulA (p_mulA rfl) (me_var 2) (me_op op_subX p_sub (me_var 0) (me_var 3))) (me_op op_addX (p_add rfl) (me_var 3) me_int)))))
      (ms_one (ms_ret (me_give 2))))))), F.kp, F.bindsN fun _ _ _ _ _ _ us hl => match us, hl with | [_, _], _ => rfl⟩
def m_factorial : M Fl := sSeq (sAsg 1 (eC (.int 1)))
      (sSeq (sFor (iN rg2 (aCons (eC (.int 2)) (aCons (e2 fAdd (eV 0) (eC (.int 1))) (aNil)))) (gNm 2)
      (sAsg 1 (e2 fMul (eV 1) (eV 2))))
      (sRet (eGive 1)))
def f_factorial : List D → FO := mFn 3 m_factorial
theorem ok_factorial (T : Txt K mg) : Good (CC K) P w K mg base 1 12 1 (f_factorial) := by
  obtain ⟨fd, F⟩ := T.f_factorial
  exact ⟨fd, ["n"], fn_ok F sc_factorial (fun cdv A outer s H E B hr => (ms_cons (ms_set (i := 1) sc_factorial.nd rfl (by first | exact Or.inl rfl | exact Or.inr rfl) me_int)
      (ms_cons (ms_for (passes_of rfl) rfl (mi_range2 (by rfl) T.z_range (ma_cons me_int (ma_cons (me_op op_addX (p_add rfl) (me_var 0) me_int) ma_nil))) (mg_name (i := 2) sc_factorial.nd rfl (by first | exact Or.inl rfl | exact Or.inr rfl)) (ms_one (ms_set (i := 1) sc_factorial.nd rfl (by first | exact Or.inl rfl | exact Or.inr rfl) (me_op op_mulA (p_mulA rfl) (me_var 1) (me_var 2)))))
      (ms_one (ms_ret (me_give 1)))))), F.kp, F.bindsN fun _ _ _ _ _ _ us hl => match us, hl with | [_], _ => rfl⟩
def m_choices_of : M Fl := sSeq (sAsg 2 (eN fLst (aCons (eN fTup (aNil)) (aNil))))
      (sSeq (sFor (iN rg1 (aCons (eV 1) (aNil))) (gNm 3)
      (sSeq (sAsg 4 (eN fLst (aNil)))
      (sSeq (sFor (iV itS (eV 2)) (gNm 5)
      (sSeq (sAsg 6 (eIf (t2 cGt (eN fLen (aCons (eV 5) (aNil))) (eC (.int 0))) (e2 fAdd (e2 fIx (eV 5) (e1 fNeg (eC (.int 1)))) (eC (.int 1))) (eC (.int 0))))
      (sDrop (eOwn 4 isLst fExtend (aCons (eLc (iN rg2 (aCons (eV 6) (aCons (eV 0) (aNil)))) (gNm 7) (tTrue) (e2 fAdd (eV 5) (eN fTup (aCons (eV 7) (aNil)))) [7]) (aNil))))))
      (sAsg 2 (eV 4)))))
      (sRet (eGive 2)))
def f_choices_of : List D → FO := mFn 8 m_choices_of
theorem ok_choices_of (T : Txt K mg) : Good (CC K) P w K mg base 1 13 2 (f_choices_of) := by
  obtain ⟨fd, F⟩ := T.f_choices_of
  exact ⟨fd, ["n", "k"], fn_ok F sc_choices_of (fun cdv A outer s H E B hr => (ms_cons (ms_set (i := 2) sc_choices_of.nd rfl (by first | exact Or.inl rfl | exact Or.inr rfl) (me_lst (ma_cons (me_tup ma_nil) ma_nil)))
      (ms_cons (ms_for (passes_of rfl) rfl (mi_range1 (by rfl) T.z_range (ma_cons (me_var 1) ma_nil)) (mg_name (i := 3) sc_choices_of.nd rfl (by first | exact Or.inl rfl | exact Or.inr rfl)) (ms_cons (ms_set (i := 4) sc_choices_of.nd rfl (by first | exact Or.inl rfl | exact Or.inr rfl) (me_lst ma_nil))
      (ms_cons (ms_for (passes_of rfl) rfl (mi_seq rfl (me_var 2)) (mg_name (i := 5) sc_choices_of.nd rfl (by first | exact Or.inl rfl | exact Or.inr rfl)) (ms_cons (ms_set (i := 6) sc_choices_of.nd rfl (by first | exact Or.inl rfl | exact Or.inr rfl) (me_if (mt_cmp op_gt p_gt (me_callB cr_lenX (n_len rfl) (by rfl) T.z_len (by decide +kernel) (ma_cons (me_var 5) ma_nil)) me_int (nomark _)) (me_op op_addX (p_add rfl) (me_ix ix_seq (p_ix rfl) (me_var 5) (me_e1 un_neg p_neg me_int) (fun _ _ => rfl)) me_int) me_int))
      (ms_one (ms_expr (me_own 4 PySem.F.plainAttrs_list PySem.F.slot_list_extend PySem.F.type_list_extend mt_extend (fun _ _ _ _ o h => ty_list o h) own_extend (ma_cons (me_lc [("x", 7)] rfl sc_choices_of.nd (mi_range2 (by rfl) T.z_range (ma_cons (me_var 6) (ma_cons (me_var 0) ma_nil))) (blkOk_by (N := ["n", "k", "found", "_", "longer", "own", "low", "x"]) (sc := defScope s_choices_of) (own := [("x", 7)]) (by decide +kernel)) (fun _ _ _ _ _ _ => (mg_name (i := 7) sc_choices_of.nd rfl (by first | exact Or.inl rfl | exact Or.inr rfl))) (fun _ _ _ _ _ _ => mts_nil) (fun _ _ _ _ _ _ => (me_op op_addX (p_add rfl) (me_var 5) (me_tup (ma_cons (me_var 7) ma_nil))))) ma_nil))))))
      (ms_one (ms_set (i := 2) sc_choices_of.nd rfl (by first | exact Or.inl rfl | exact Or.inr rfl) (me_var 4))))))
      (ms_one (ms_ret (me_give 2)))))), F.kp, F.bindsN fun _ _ _ _ _ _ us hl => match us, hl with | [_, _], _ => rfl⟩
def m_orders_of : M Fl := sSeq (sAsg 1 (eN fLst (aCons (eN fTup (aNil)) (aNil))))
      (sSeq (sFor (iN rg1 (aCons (eN fLen (aCons (eV 0) (aNil))) (aNil))) (gNm 2)
      (sSeq (sAsg 3 (eN fLst (aNil)))
      (sSeq (sFor (iV itS (eV 1)) (gNm 4)
      (sDrop (eOwn 3 isLst fExtend (aCons (eLc (iN rg1 (aCons (eN fLen (aCons (eV 0) (aNil))) (aNil))) (gNm 5) (t2 cNotIn (eV 5) (eV 4)) (e2 fAdd (eV 4) (eN fTup (aCons (eV 5) (aNil)))) [5]) (aNil)))))
      (sAsg 1 (eV 3)))))
      (sRet (eLc (iV itS (eV 1)) (gNm 4) (tTrue) (eN fTupOf (aCons (eLc (iV itS (eV 4)) (gNm 5) (tTrue) (e2 fIx (eV 0) (eV 5)) [5]) (aNil))) [4])))
def f_orders_of : List D → FO := mFn 6 m_orders_of
theorem ok_orders_of (T : Txt K mg) : Good (CC K) P w K mg base 1 14 1 (f_orders_of) := by
  obtain ⟨fd, F⟩ := T.f_orders_of
  exact ⟨fd, ["items"], fn_ok F sc_orders_of (fun cdv A outer s H E B hr => (ms_cons (ms_set (i := 1) sc_orders_of.nd rfl (by first | exact Or.inl rfl | exact Or.inr rfl) (me_lst (ma_cons (me_tup ma_nil) ma_nil)))
      (ms_cons (ms_for (passes_of rfl) rfl (mi_range1 (by rfl) T.z_range (ma_cons (me_callB cr_lenX (n_len rfl) (by rfl) T.z_len (by decide +kernel) (ma_cons (me_var 0) ma_nil)) ma_nil)) (mg_name (i := 2) sc_orders_of.nd rfl (by first | exact Or.inl rfl | exact Or.inr rfl)) (ms_cons (ms_set (i := 3) sc_orders_of.nd rfl (by first | exact Or.inl rfl | exact Or.inr rfl) (me_lst ma_nil))
      (ms_cons (ms_for (passes_of rfl) rfl (mi_seq rfl (me_var 1)) (mg_name (i := 4) sc_orders_of.nd rfl (by first | exact Or.inl rfl | exact Or.inr rfl)) (ms_one (ms_expr (me_own 3 PySem.F.plainAttrs_list PySem.F.slot_list_extend PySem.F.type_list_extend mt_extend (fun _ _ _ _ o h => ty_list o h) own_extend (ma_cons (me_lc [("x", 5)] rfl sc_orders_of.nd (mi_range1 (by rfl) T.z_range (ma_cons (me_callB cr_lenX (n_len rfl) (by rfl) T.z_len (by decide +kernel) (ma_cons (me_var 0) ma_nil)) ma_nil)) (blkOk_by (N := ["items", "found", "_", "longer", "own", "x"]) (sc := defScope s_orders_of) (own := [("x", 5)]) (by decide +kernel)) (fun _ _ _ _ _ _ => (mg_name (i := 5) sc_orders_of.nd rfl (by first | exact Or.inl rfl | exact Or.inr rfl))) (fun _ _ _ _ _ _ => (mts_one (mt_cmp op_notIn_seq (p_notIn rfl) (me_var 5) (me_var 4) (by rfl)))) (fun _ _ _ _ _ _ => (me_op op_addX (p_add rfl) (me_var 4) (me_tup (ma_cons (me_var 5) ma_nil))))) ma_nil)))))
      (ms_one (ms_set (i := 1) sc_orders_of.nd rfl (by first | exact Or.inl rfl | exact Or.inr rfl) (me_var 3))))))
      (ms_one (ms_ret (me_lc [("own", 4)] rfl sc_orders_of.nd (mi_seq rfl (me_var 1)) (blkOk_by (N := ["items", "found", "_", "longer", "own", "x"]) (sc := defScope s_orders_of) (own := [("own", 4)]) (by decide +kernel)) (fun _ _ _ _ _ _ => (mg_name (i := 4) sc_orders_of.nd rfl (by first | exact Or.inl rfl | exact Or.inr rfl))) (fun _ _ _ _ _ _ => mts_nil) (fun _ _ _ _ _ _ => (me_callTy call_tuple_of (n_tupOf rfl) (by rfl) T.z_tuple (by decide +kernel) (ma_cons (me_lc [("x", 5)] rfl sc_orders_of.nd (mi_seq rfl (me_var 4)) (blkOk_1 (N := ["items", "found", "_", "longer", "own", "x"]) (sc0 := defScope s_orders_of) (own := [("x", 5)]) rfl (by decide +kernel)) (fun _ _ _ _ _ _ => (mg_name (i := 5) sc_orders_of.nd rfl (by first | exact Or.inl rfl | exact Or.inr rfl))) (fun _ _ _ _ _ _ => mts_nil) (fun _ _ _ _ _ _ => (me_ix ix_seq (p_ix rfl) (me_var 0) (me_var 5) (fun _ _ => rfl)))) ma_nil))))))))), F.kp, F.bindsN fun _ _ _ _ _ _ us hl => match us, hl with | [_], _ => rfl⟩
def m_order_sign : M Fl := sSeq (sAsg 1 (eC (.int 1)))
      (sSeq (sFor (iN rg1 (aCons (eN fLen (aCons (eV 0) (aNil))) (aNil))) (gNm 2)
      (sFor (iN rg1 (aCons (eV 2) (aNil))) (gNm 3)
      (sIf (t2 cGt (e2 fIx (eV 0) (eV 3)) (e2 fIx (eV 0) (eV 2)))
      (sAsg 1 (e1 fNeg (eV 1))) (sNx))))
      (sRet (eGive 1)))
def f_order_sign : List D → FO := mFn 4 m_order_sign
theorem ok_order_sign (T : Txt K mg) : Good (CC K) P w K mg base 1 15 1 (f_order_sign) := by
  obtain ⟨fd, F⟩ := T.f_order_sign
  exact ⟨fd, ["order"], fn_ok F sc_order_sign (fun cdv A outer s H E B hr => (ms_cons (ms_set (i := 1) sc_order_sign.nd rfl (by first | exact Or.inl rfl | exact Or.inr rfl) me_int)
      (ms_cons (ms_for (passes_of rfl) rfl (mi_range1 (by rfl) T.z_range (ma_cons (me_callB cr_lenX (n_len rfl) (by rfl) T.z_len (by decide +kernel) (ma_cons (me_var 0) ma_nil)) ma_nil)) (mg_name (i := 2) sc_order_sign.nd rfl (by first | exact Or.inl rfl | exact Or.inr rfl)) (ms_one (ms_for (passes_of rfl) rfl (mi_range1 (by rfl) T.z_range (ma_cons (me_var 2) ma_nil)) (mg_name (i := 3) sc_order_sign.nd rfl (by first | exact Or.inl rfl | exact Or.inr rfl)) (ms_one (ms_if (mt_cmp op_gt p_gt (me_ix ix_seq (p_ix rfl) (me_var 0) (me_var 3) (fun _ _ => rfl)) (me_ix ix_seq (p_ix rfl) (me_var 0) (me_var 2) (fun _ _ => rfl)) (nomark _)) (ms_one (ms_set (i := 1) sc_order_sign.nd rfl (by first | exact Or.inl rfl | exact Or.inr rfl) (me_e1 un_neg p_neg (me_var 1)))) ms_nil)))))
      (ms_one (ms_ret (me_give 1)))))), F.kp, F.bindsN fun _ _ _ _ _ _ us hl => match us, hl with | [_], _ => rfl⟩
def m_divisors : M Fl := sRet (eLc (iN rg2 (aCons (eC (.int 1)) (aCons (e2 fAdd (eV 0) (eC (.int 1))) (aNil)))) (gNm 1) (t2 cEq (e2 fMod (eV 0) (eV 1)) (eC (.int 0))) (eV 1) [1])
def f_divisors : List D → FO := mFn 2 m_divisors
theorem ok_divisors (T : Txt K mg) : Good (CC K) P w K mg base 1 16 1 (f_divisors) := by
  obtain ⟨fd, F⟩ := T.f_divisors
  exact ⟨fd, ["n"], fn_ok F sc_divisors (fun cdv A outer s H E B hr => (ms_one (ms_ret (me_lc [("d", 1)] rfl sc_divisors.nd (mi_range2 (by rfl) T.z_range (ma_cons me_int (ma_cons (me_op op_addX (p_add rfl) (me_var 0) me_int) ma_nil))) (blkOk_by (N := ["n", "d"]) (sc := defScope s_divisors) (own := [("d", 1)]) (by decide +kernel)) (fun _ _ _ _ _ _ => (mg_name (i := 1) sc_divisors.nd rfl (by first | exact Or.inl rfl | exact Or.inr rfl))) (fun _ _ _ _ _ _ => (mts_one (mt_cmp (op_eqD hr.units) (p_eq rfl) (me_op op_modN p_mod (me_var 0) (me_var 1)) me_int (nomark _)))) (fun _ _ _ _ _ _ => (me_var 1)))))), F.kp, F.bindsN fun _ _ _ _ _ _ us hl => match us, hl with | [_], _ => rfl⟩
def m_mobius : M Fl := sSeq (sAsgG (gTp 2 (gsCons (gNm 1) (gsCons (gNm 2) (gsNil)))) (eN fTup (aCons (eC (.int 1)) (aCons (eC (.int 2)) (aNil)))))
      (sSeq (whL (t2 cGt (eV 0) (eC (.int 1)))
      (sSeq (sIf (t2 cEq (e2 fMod (eV 0) (eV 2)) (eC (.int 0)))
      (sSeq (sAsg 0 (e2 fFdiv (eV 0) (eV 2)))
      (sSeq (sIf (t2 cEq (e2 fMod (eV 0) (eV 2)) (eC (.int 0)))
      (sRet (eC (.int 0))) (sNx))
      (sAsg 1 (e1 fNeg (eV 1))))) (sNx))
      (sAsg 2 (e2 fAdd (eV 2) (eC (.int 1))))) 1000000000)
      (sRet (eGive 1)))
def f_mobius : List D → FO := mFn 3 m_mobius
theorem ok_mobius (T : Txt K mg) : Good (CC K) P w K mg base 1 17 1 (f_mobius) := by
  obtain ⟨fd, F⟩ := T.f_mobius
  exact ⟨fd, ["n"], fn_ok F sc_mobius (fun cdv A outer s H E B hr => (ms_cons (ms_asg (me_tup (ma_cons me_int (ma_cons me_int ma_nil))) (mg_tup rfl rfl (mgs_cons (mg_name (i := 1) sc_mobius.nd rfl (by first | exact Or.inl rfl | exact Or.inr rfl)) (mgs_cons (mg_name (i := 2) sc_mobius.nd rfl (by first | exact Or.inl rfl | exact Or.inr rfl)) mgs_nil))))
      (ms_cons (ms_while 1000000000 (passes_of rfl) (mt_cmp op_gt p_gt (me_var 0) me_int (nomark _)) (ms_cons (ms_if (mt_cmp (op_eqD hr.units) (p_eq rfl) (me_op op_modN p_mod (me_var 0) (me_var 2)) me_int (nomark _)) (ms_cons (ms_set (i := 0) sc_mobius.nd rfl (by first | exact Or.inl rfl | exact Or.inr rfl) (me_op op_fdivX p_fdiv (me_var 0) (me_var 2)))
      (ms_cons (ms_if (mt_cmp (op_eqD hr.units) (p_eq rfl) (me_op op_modN p_mod (me_var 0) (me_var 2)) me_int (nomark _)) (ms_one (ms_ret me_int)) ms_nil)
      (ms_one (ms_set (i := 1) sc_mobius.nd rfl (by first | exact Or.inl rfl | exact Or.inr rfl) (me_e1 un_neg p_neg (me_var 1)))))) ms_nil)
      (ms_one (ms_set (i := 2) sc_mobius.nd rfl (by first | exact Or.inl rfl | exact Or.inr rfl) (me_op op_addX (p_add rfl) (me_var 2) me_int)))))
      (ms_one (ms_ret (me_give 1)))))), F.kp, F.bindsN fun _ _ _ _ _ _ us hl => match us, hl with | [_], _ => rfl⟩
def m_flipped : M Fl := sSeq (sAsg 1 (eIf (t2 cGt (eN fLen (aCons (eV 0) (aNil))) (eC (.int 0))) (e2 fIx (eV 0) (eC (.int 0))) (eC (.int 0))))
      (sRet (eN fTupOf (aCons (eLc (iN rg2 (aCons (eC (.int 1)) (aCons (e2 fAdd (eV 1) (eC (.int 1))) (aNil)))) (gNm 2) (tTrue) (eN fLen (aCons (eLc (iV itS (eV 0)) (gNm 3) (t2 cGe (eV 3) (eV 2)) (eV 3) [3]) (aNil))) [2]) (aNil))))
def f_flipped : List D → FO := mFn 4 m_flipped
theorem ok_flipped (T : Txt K mg) : Good (CC K) P w K mg base 1 20 1 (f_flipped) := by
  obtain ⟨fd, F⟩ := T.f_flipped
  exact ⟨fd, ["shape"], fn_ok F sc_flipped (fun cdv A outer s H E B hr => (ms_cons (ms_set (i := 1) sc_flipped.nd rfl (by first | exact Or.inl rfl | exact Or.inr rfl) (me_if (mt_cmp op_gt p_gt (me_callB cr_lenX (n_len rfl) (by rfl) T.z_len (by decide +kernel) (ma_cons (me_var 0) ma_nil)) me_int (nomark _)) (me_ix ix_seq (p_ix rfl) (me_var 0) me_int (fun _ _ => rfl)) me_int))
      (ms_one (ms_ret (me_callTy call_tuple_of (n_tupOf rfl) (by rfl) T.z_tuple (by decide +kernel) (ma_cons (me_lc [("k", 2)] rfl sc_flipped.nd (mi_range2 (by rfl) T.z_range (ma_cons me_int (ma_cons (me_op op_addX (p_add rfl) (me_var 1) me_int) ma_nil))) (blkOk_by (N := ["shape", "most", "k", "c"]) (sc := defScope s_flipped) (own := [("k", 2)]) (by decide +kernel)) (fun _ _ _ _ _ _ => (mg_name (i := 2) sc_flipped.nd rfl (by first | exact Or.inl rfl | exact Or.inr rfl))) (fun _ _ _ _ _ _ => mts_nil) (fun _ _ _ _ _ _ => (me_callB cr_lenX (n_len rfl) (by rfl) T.z_len (by decide +kernel) (ma_cons (me_lc [("c", 3)] rfl sc_flipped.nd (mi_seq rfl (me_var 0)) (blkOk_1 (N := ["shape", "most", "k", "c"]) (sc0 := defScope s_flipped) (own := [("c", 3)]) rfl (by decide +kernel)) (fun _ _ _ _ _ _ => (mg_name (i := 3) sc_flipped.nd rfl (by first | exact Or.inl rfl | exact Or.inr rfl))) (fun _ _ _ _ _ _ => (mts_one (mt_cmp op_ge p_ge (me_var 3) (me_var 2) (nomark _)))) (fun _ _ _ _ _ _ => (me_var 3))) ma_nil)))) ma_nil)))))), F.kp, F.bindsN fun _ _ _ _ _ _ us hl => match us, hl with | [_], _ => rfl⟩
def m_is_over : M Fl := sSeq (sAsg 2 (eN fMax2 (aCons (eN fLen (aCons (eV 0) (aNil))) (aCons (eN fLen (aCons (eV 1) (aNil))) (aNil)))))
      (sRet (eN fAll (aCons (eLc (iN rg1 (aCons (e2 fAdd (eV 2) (eC (.int 1))) (aNil))) (gNm 3) (tTrue) (e2 (cmp cGe) (eN fSum (aCons (eSl (eV 0) none (some (eV 3))) (aNil))) (eN fSum (aCons (eSl (eV 1) none (some (eV 3))) (aNil)))) [3]) (aNil))))
def f_is_over : List D → FO := mFn 4 m_is_over
theorem ok_is_over (T : Txt K mg) : Good (CC K) P w K mg base 1 21 2 (f_is_over) := by
  obtain ⟨fd, F⟩ := T.f_is_over
  exact ⟨fd, ["one", "two"], fn_ok F sc_is_over (fun cdv A outer s H E B hr => (ms_cons (ms_set (i := 2) sc_is_over.nd rfl (by first | exact Or.inl rfl | exact Or.inr rfl) (me_callB (call_max2 rfl) n_max2 (by rfl) T.z_max (by decide +kernel) (ma_cons (me_callB cr_lenX (n_len rfl) (by rfl) T.z_len (by decide +kernel) (ma_cons (me_var 0) ma_nil)) (ma_cons (me_callB cr_lenX (n_len rfl) (by rfl) T.z_len (by decide +kernel) (ma_cons (me_var 1) ma_nil)) ma_nil))))
      (ms_one (ms_ret (me_callB (cr_all rfl) (n_all rfl) (by rfl) T.z_all (by decide +kernel) (ma_cons (me_lc [("k", 3)] rfl sc_is_over.nd (mi_range1 (by rfl) T.z_range (ma_cons (me_op op_addX (p_add rfl) (me_var 2) me_int) ma_nil)) (blkOk_by (N := ["one", "two", "n", "k"]) (sc := defScope s_is_over) (own := [("k", 3)]) (by decide +kernel)) (fun _ _ _ _ _ _ => (mg_name (i := 3) sc_is_over.nd rfl (by first | exact Or.inl rfl | exact Or.inr rfl))) (fun _ _ _ _ _ _ => mts_nil) (fun _ _ _ _ _ _ => (me_cmp op_ge p_ge (me_callB (cr_sumX rfl) (n_sum rfl) (by rfl) T.z_sum (by decide +kernel) (ma_cons (me_sl rfl (me_var 0) mo_none (mo_some (me_var 3))) ma_nil)) (me_callB (cr_sumX rfl) (n_sum rfl) (by rfl) T.z_sum (by decide +kernel) (ma_cons (me_sl rfl (me_var 1) mo_none (mo_some (me_var 3))) ma_nil)) (nomark _)))) ma_nil)))))), F.kp, F.bindsN fun _ _ _ _ _ _ us hl => match us, hl with | [_, _], _ => rfl⟩
def m__law_state : M Fl := sSeq (sAsg 1 (eC (.int 0)))
      (sSeq (sAsg 2 (eC (.int 1)))
      (sSeq (sFor (iV itS (eSl (eV 0) none (some (eC (.int 63))))) (gNm 3)
      (sSeq (sAsg 1 (e2 fAdd (e2 fMul (eV 1) (eC (.int 1000003))) (eN fAbs (aCons (eV 3) (aNil)))))
      (sAsg 2 (e2 fMod (eN fInt1 (aCons (e2 fAdd (e2 fMul (eV 2) (eC (.int 48271))) (eV 3)) (aNil))) (eC (.int 2147483647))))))
      (sRet (eN fLst (aCons (eV 1) (aCons (eIf (t2 cNe (eV 2) (eC (.int 1973665155))) (eV 2) (eC (.int 7))) (aNil)))))))
def f__law_state : List D → FO := mFn 4 m__law_state
theorem ok__law_state (T : Txt K mg) : Good (CC K) P w K mg base 1 22 1 (f__law_state) := by
  obtain ⟨fd, F⟩ := T.f__law_state
  exact ⟨fd, ["script"], fn_ok F sc__law_state (fun cdv A outer s H E B hr => (ms_cons (ms_set (i := 1) sc__law_state.nd rfl (by first | exact Or.inl rfl | exact Or.inr rfl) me_int)
      (ms_cons (ms_set (i := 2) sc__law_state.nd rfl (by first | exact Or.inl rfl | exact Or.inr rfl) me_int)
      (ms_cons (ms_for (passes_of rfl) rfl (mi_seq rfl (me_sl rfl (me_var 0) mo_none (mo_some me_int))) (mg_name (i := 3) sc__law_state.nd rfl (by first | exact Or.inl rfl | exact Or.inr rfl)) (ms_cons (ms_set (i := 1) sc__law_state.nd rfl (by first | exact Or.inl rfl | exact Or.inr rfl) (me_op op_addX (p_add rfl) (me_op op_mulA (p_mulA rfl) (me_var 1) me_int) (me_callB call_abs n_abs (by rfl) T.z_abs (by decide +kernel) (ma_cons (me_var 3) ma_nil))))
      (ms_one (ms_set (i := 2) sc__law_state.nd rfl (by first | exact Or.inl rfl | exact Or.inr rfl) (me_op op_modN p_mod (me_callTy call_int1 n_int1 (by rfl) T.z_int (by decide +kernel) (ma_cons (me_op op_addX (p_add rfl) (me_op op_mulA (p_mulA rfl) (me_var 2) me_int) (me_var 3)) ma_nil)) me_int)))))
      (ms_one (ms_ret (me_lst (ma_cons (me_var 1) (ma_cons (me_if (mt_cmp (op_neD hr.units) (p_ne rfl) (me_var 2) me_int (nomark _)) (me_var 2) me_int) ma_nil))))))))), F.kp, F.bindsN fun _ _ _ _ _ _ us hl => match us, hl with | [_], _ => rfl⟩
def m__law_take : M Fl := sSeq (sIf (t2 cGt (eIxO 0 (eC (.int 0))) (eC (.int 0)))
      (sSeq (sAsg 2 (e2 fMod (eN fInt1 (aCons (eIxO 0 (eC (.int 0))) (aNil))) (eV 1)))
      (sSeq (sSetIx 0 (e2 fFdiv (eIxO 0 (eC (.int 0))) (eV 1)) (eC (.int 0)))
      (sRet (eGive 2)))) (sNx))
      (sSeq (sSetIx 0 (e2 fMod (eN fInt1 (aCons (e2 fAdd (e2 fMul (eIxO 0 (eC (.int 1))) (eC (.int 48271))) (eC (.int 11))) (aNil))) (eC (.int 2147483647))) (eC (.int 1)))
      (sRet (e2 fMod (eN fInt1 (aCons (e2 fFdiv (eIxO 0 (eC (.int 1))) (eC (.int 7))) (aNil))) (eV 1))))
def f__law_take : D → List D → FB := mFnB 3 m__law_take
theorem ok__law_take (T : Txt K mg) : GoodB (CC K) P w K mg base 1 23 2 (f__law_take) := by
  obtain ⟨fd, F⟩ := T.f__law_take
  exact ⟨fd, ["state", "m"], fn_okB F sc__law_take (fun cdv A outer s H E B hr => (ms_cons (ms_if (mt_cmp op_gt p_gt (me_ixO rfl 0 me_int (fun _ _ => rfl)) me_int (nomark _)) (ms_cons (ms_set (i := 2) sc__law_take.nd rfl (by first | exact Or.inl rfl | exact Or.inr rfl) (me_op op_modN p_mod (me_callTy call_int1 n_int1 (by rfl) T.z_int (by decide +kernel) (ma_cons (me_ixO rfl 0 me_int (fun _ _ => rfl)) ma_nil)) (me_var 1)))
      (ms_cons (ms_setIx 0 (me_op op_fdivX p_fdiv (me_ixO rfl 0 me_int (fun _ _ => rfl)) (me_var 1)) me_int)
      (ms_one (ms_ret (me_give 2))))) ms_nil)
      (ms_cons (ms_setIx 0 (me_op op_modN p_mod (me_callTy call_int1 n_int1 (by rfl) T.z_int (by decide +kernel) (ma_cons (me_op op_addX (p_add rfl) (me_op op_mulA (p_mulA rfl) (me_ixO rfl 0 me_int (fun _ _ => rfl)) me_int) me_int) ma_nil)) me_int) me_int)
      (ms_one (ms_ret (me_op op_modN p_mod (me_callTy call_int1 n_int1 (by rfl) T.z_int (by decide +kernel) (ma_cons (me_op op_fdivX p_fdiv (me_ixO rfl 0 me_int (fun _ _ => rfl)) me_int) ma_nil)) (me_var 1))))))), F.kp, F.bindsN fun _ _ _ _ _ _ us hl => match us, hl with | [_, _], _ => rfl⟩
def m__law_says : M Fl := sRet (eAnd (eN fIsi (aCons (eV 0) (aCons (eC (.ty .bool)) (aNil)))) (e2 (cmp cEq) (eV 0) (eV 1)))
def f__law_says : List D → FO := mFn 2 m__law_says
theorem ok__law_says (T : Txt K mg) : Good (CC K) P w K mg base 1 24 2 (f__law_says) := by
  obtain ⟨fd, F⟩ := T.f__law_says
  exact ⟨fd, ["value", "due"], fn_ok F sc__law_says (fun cdv A outer s H E B hr => (ms_one (ms_ret (me_and (me_callB call_isi (n_isi rfl) (by rfl) T.z_isinstance (by decide +kernel) (ma_cons (me_var 0) (ma_cons (me_ty .bool (by rfl) T.z_bool (by decide +kernel)) ma_nil))) (me_one (me_cmp (op_eqD hr.units) (p_eq rfl) (me_var 0) (me_var 1) (nomark _))))))), F.kp, F.bindsN fun _ _ _ _ _ _ us hl => match us, hl with | [_, _], _ => rfl⟩
def m__law_is_whole : M Fl := sRet (eAnd (eN fIsi (aCons (eV 0) (aCons (eC (.ty .int)) (aNil)))) (eNot (eN fIsi (aCons (eV 0) (aCons (eC (.ty .bool)) (aNil))))))
def f__law_is_whole : List D → FO := mFn 1 m__law_is_whole
theorem ok__law_is_whole (T : Txt K mg) : Good (CC K) P w K mg base 1 25 1 (f__law_is_whole) := by
  obtain ⟨fd, F⟩ := T.f__law_is_whole
  exact ⟨fd, ["value"], fn_ok F sc__law_is_whole (fun cdv A outer s H E B hr => (ms_one (ms_ret (me_and (me_callB call_isi (n_isi rfl) (by rfl) T.z_isinstance (by decide +kernel) (ma_cons (me_var 0) (ma_cons (me_ty .int (by rfl) T.z_int (by decide +kernel)) ma_nil))) (me_one (me_not (me_callB call_isi (n_isi rfl) (by rfl) T.z_isinstance (by decide +kernel) (ma_cons (me_var 0) (ma_cons (me_ty .bool (by rfl) T.z_bool (by decide +kernel)) ma_nil))))))))), F.kp, F.bindsN fun _ _ _ _ _ _ us hl => match us, hl with | [_], _ => rfl⟩
def m__law_choices : M Fl := sSeq (sAsg 2 (eN fLst (aCons (eN fTup (aNil)) (aNil))))
      (sSeq (sFor (iN rg1 (aCons (eV 1) (aNil))) (gNm 3)
      (sSeq (sAsg 4 (eN fLst (aNil)))
      (sSeq (sFor (iV itS (eV 2)) (gNm 5)
      (sAsg 4 (e2 fAdd (eV 4) (eLc (iN rg2 (aCons (eIf (t2 cGt (eN fLen (aCons (eV 5) (aNil))) (eC (.int 0))) (e2 fAdd (e2 fIx (eV 5) (e1 fNeg (eC (.int 1)))) (eC (.int 1))) (eC (.int 0))) (aCons (eV 0) (aNil)))) (gNm 6) (tTrue) (e2 fAdd (eV 5) (eN fTup (aCons (eV 6) (aNil)))) [6]))))
      (sAsg 2 (eV 4)))))
      (sRet (eGive 2)))
def f__law_choices : List D → FO := mFn 7 m__law_choices
theorem ok__law_choices (T : Txt K mg) : Good (CC K) P w K mg base 1 29 2 (f__law_choices) := by
  obtain ⟨fd, F⟩ := T.f__law_choices
  exact ⟨fd, ["n", "k"], fn_ok F sc__law_choices (fun cdv A outer s H E B hr => (ms_cons (ms_set (i := 2) sc__law_choices.nd rfl (by first | exact Or.inl rfl | exact Or.inr rfl) (me_lst (ma_cons (me_tup ma_nil) ma_nil)))
      (ms_cons (ms_for (passes_of rfl) rfl (mi_range1 (by rfl) T.z_range (ma_cons (me_var 1) ma_nil)) (mg_name (i := 3) sc__law_choices.nd rfl (by first | exact Or.inl rfl | exact Or.inr rfl)) (ms_cons (ms_set (i := 4) sc__law_choices.nd rfl (by first | exact Or.inl rfl | exact Or.inr rfl) (me_lst ma_nil))
      (ms_cons (ms_for (passes_of rfl) rfl (mi_seq rfl (me_var 2)) (mg_name (i := 5) sc__law_choices.nd rfl (by first | exact Or.inl rfl | exact Or.inr rfl)) (ms_one (ms_set (i := 4) sc__law_choices.nd rfl (by first | exact Or.inl rfl | exact Or.inr rfl) (me_op op_addX (p_add rfl) (me_var 4) (me_lc [("x", 6)] rfl sc__law_choices.nd (mi_range2 (by rfl) T.z_range (ma_cons (me_if (mt_cmp op_gt p_gt (me_callB cr_lenX (n_len rfl) (by rfl) T.z_len (by decide +kernel) (ma_cons (me_var 5) ma_nil)) me_int (nomark _)) (me_op op_addX (p_add rfl) (me_ix ix_seq (p_ix rfl) (me_var 5) (me_e1 un_neg p_neg me_int) (fun _ _ => rfl)) me_int) me_int) (ma_cons (me_var 0) ma_nil))) (blkOk_by (N := ["n", "k", "found", "t", "longer", "own", "x"]) (sc := defScope s__law_choices) (own := [("x", 6)]) (by decide +kernel)) (fun _ _ _ _ _ _ => (mg_name (i := 6) sc__law_choices.nd rfl (by first | exact Or.inl rfl | exact Or.inr rfl))) (fun _ _ _ _ _ _ => mts_nil) (fun _ _ _ _ _ _ => (me_op op_addX (p_add rfl) (me_var 5) (me_tup (ma_cons (me_var 6) ma_nil)))))))))
      (ms_one (ms_set (i := 2) sc__law_choices.nd rfl (by first | exact Or.inl rfl | exact Or.inr rfl) (me_var 4))))))
      (ms_one (ms_ret (me_give 2)))))), F.kp, F.bindsN fun _ _ _ _ _ _ us hl => match us, hl with | [_, _], _ => rfl⟩
def m__law_divisors : M Fl := sRet (eLc (iN rg2 (aCons (eC (.int 1)) (aCons (e2 fAdd (eV 0) (eC (.int 1))) (aNil)))) (gNm 1) (t2 cEq (e2 fMod (eN fInt1 (aCons (eV 0) (aNil))) (eV 1)) (eC (.int 0))) (eV 1) [1])
def f__law_divisors : List D → FO := mFn 2 m__law_divisors
theorem ok__law_divisors (T : Txt K mg) : Good (CC K) P w K mg base 1 30 1 (f__law_divisors) := by
  obtain ⟨fd, F⟩ := T.f__law_divisors
  exact ⟨fd, ["n"], fn_ok F sc__law_divisors (fun cdv A outer s H E B hr => (ms_one (ms_ret (me_lc [("d", 1)] rfl sc__law_divisors.nd (mi_range2 (by rfl) T.z_range (ma_cons me_int (ma_cons (me_op op_addX (p_add rfl) (me_var 0) me_int) ma_nil))) (blkOk_by (N := ["n", "d"]) (sc := defScope s__law_divisors) (own := [("d", 1)]) (by decide +kernel)) (fun _ _ _ _ _ _ => (mg_name (i := 1) sc__law_divisors.nd rfl (by first | exact Or.inl rfl | exact Or.inr rfl))) (fun _ _ _ _ _ _ => (mts_one (mt_cmp (op_eqD hr.units) (p_eq rfl) (me_op op_modN p_mod (me_callTy call_int1 n_int1 (by rfl) T.z_int (by decide +kernel) (ma_cons (me_var 0) ma_nil)) (me_var 1)) me_int (nomark _)))) (fun _ _ _ _ _ _ => (me_var 1)))))), F.kp, F.bindsN fun _ _ _ _ _ _ us hl => match us, hl with | [_], _ => rfl⟩
def m__law_mobius : M Fl := sSeq (sPar 1 2 (aCons (eV 0) (aCons (eC (.int 1)) (aNil))))
      (sSeq (sFor (iN rg2 (aCons (eC (.int 2)) (aCons (e2 fAdd (eV 0) (eC (.int 1))) (aNil)))) (gNm 3)
      (sIf (t2 cEq (e2 fMod (eN fInt1 (aCons (eV 1) (aNil))) (eV 3)) (eC (.int 0)))
      (sSeq (sAsg 1 (e2 fFdiv (eV 1) (eV 3)))
      (sSeq (sAsg 2 (e1 fNeg (eV 2)))
      (sIf (t2 cEq (e2 fMod (eN fInt1 (aCons (eV 1) (aNil))) (eV 3)) (eC (.int 0)))
      (sRet (eC (.int 0))) (sNx)))) (sNx)))
      (sRet (eGive 2)))
def f__law_mobius : List D → FO := mFn 4 m__law_mobius
theorem ok__law_mobius (T : Txt K mg) : Good (CC K) P w K mg base 1 31 1 (f__law_mobius) := by
  obtain ⟨fd, F⟩ := T.f__law_mobius
  exact ⟨fd, ["n"], fn_ok F sc__law_mobius (fun cdv A outer s H E B hr => (ms_cons (ms_par (i := 1) (j := 2) rfl sc__law_mobius.nd rfl rfl (by decide) rfl rfl (ma_cons (me_var 0) (ma_cons me_int ma_nil)) (by rfl))
      (ms_cons (ms_for (passes_of rfl) rfl (mi_range2 (by rfl) T.z_range (ma_cons me_int (ma_cons (me_op op_addX (p_add rfl) (me_var 0) me_int) ma_nil))) (mg_name (i := 3) sc__law_mobius.nd rfl (by first | exact Or.inl rfl | exact Or.inr rfl)) (ms_one (ms_if (mt_cmp (op_eqD hr.units) (p_eq rfl) (me_op op_modN p_mod (me_callTy call_int1 n_int1 (by rfl) T.z_int (by decide +kernel) (ma_cons (me_var 1) ma_nil)) (me_var 3)) me_int (nomark _)) (ms_cons (ms_set (i := 1) sc__law_mobius.nd rfl (by first | exact Or.inl rfl | exact Or.inr rfl) (me_op op_fdivX p_fdiv (me_var 1) (me_var 3)))
      (ms_cons (ms_set (i := 2) sc__law_mobius.nd rfl (by first | exact Or.inl rfl | exact Or.inr rfl) (me_e1 un_neg p_neg (me_var 2)))
      (ms_one (ms_if (mt_cmp (op_eqD hr.units) (p_eq rfl) (me_op op_modN p_mod (me_callTy call_int1 n_int1 (by rfl) T.z_int (by decide +kernel) (ma_cons (me_var 1) ma_nil)) (me_var 3)) me_int (nomark _)) (ms_one (ms_ret me_int)) ms_nil)))) ms_nil)))
      (ms_one (ms_ret (me_give 2)))))), F.kp, F.bindsN fun _ _ _ _ _ _ us hl => match us, hl with | [_], _ => rfl⟩
def m__law_orders : M Fl := sSeq (sAsg 1 (eN fLst (aCons (eN fTup (aNil)) (aNil))))
      (sSeq (sFor (iN rg1 (aCons (eN fLen (aCons (eV 0) (aNil))) (aNil))) (gNm 2)
      (sSeq (sAsg 3 (eN fLst (aNil)))
      (sSeq (sFor (iV itS (eV 1)) (gNm 4)
      (sAsg 3 (e2 fAdd (eV 3) (eLc (iN rg1 (aCons (eN fLen (aCons (eV 0) (aNil))) (aNil))) (gNm 5) (t2 cNotIn (eV 5) (eV 4)) (e2 fAdd (eV 4) (eN fTup (aCons (eV 5) (aNil)))) [5]))))
      (sAsg 1 (eV 3)))))
      (sRet (eGive 1)))
def f__law_orders : List D → FO := mFn 6 m__law_orders
theorem ok__law_orders (T : Txt K mg) : Good (CC K) P w K mg base 1 32 1 (f__law_orders) := by
  obtain ⟨fd, F⟩ := T.f__law_orders
  exact ⟨fd, ["items"], fn_ok F sc__law_orders (fun cdv A outer s H E B hr => (ms_cons (ms_set (i := 1) sc__law_orders.nd rfl (by first | exact Or.inl rfl | exact Or.inr rfl) (me_lst (ma_cons (me_tup ma_nil) ma_nil)))
      (ms_cons (ms_for (passes_of rfl) rfl (mi_range1 (by rfl) T.z_range (ma_cons (me_callB cr_lenX (n_len rfl) (by rfl) T.z_len (by decide +kernel) (ma_cons (me_var 0) ma_nil)) ma_nil)) (mg_name (i := 2) sc__law_orders.nd rfl (by first | exact Or.inl rfl | exact Or.inr rfl)) (ms_cons (ms_set (i := 3) sc__law_orders.nd rfl (by first | exact Or.inl rfl | exact Or.inr rfl) (me_lst ma_nil))
      (ms_cons (ms_for (passes_of rfl) rfl (mi_seq rfl (me_var 1)) (mg_name (i := 4) sc__law_orders.nd rfl (by first | exact Or.inl rfl | exact Or.inr rfl)) (ms_one (ms_set (i := 3) sc__law_orders.nd rfl (by first | exact Or.inl rfl | exact Or.inr rfl) (me_op op_addX (p_add rfl) (me_var 3) (me_lc [("x", 5)] rfl sc__law_orders.nd (mi_range1 (by rfl) T.z_range (ma_cons (me_callB cr_lenX (n_len rfl) (by rfl) T.z_len (by decide +kernel) (ma_cons (me_var 0) ma_nil)) ma_nil)) (blkOk_by (N := ["items", "found", "t", "longer", "own", "x"]) (sc := defScope s__law_orders) (own := [("x", 5)]) (by decide +kernel)) (fun _ _ _ _ _ _ => (mg_name (i := 5) sc__law_orders.nd rfl (by first | exact Or.inl rfl | exact Or.inr rfl))) (fun _ _ _ _ _ _ => (mts_one (mt_cmp op_notIn_seq (p_notIn rfl) (me_var 5) (me_var 4) (by rfl)))) (fun _ _ _ _ _ _ => (me_op op_addX (p_add rfl) (me_var 4) (me_tup (ma_cons (me_var 5) ma_nil)))))))))
      (ms_one (ms_set (i := 1) sc__law_orders.nd rfl (by first | exact Or.inl rfl | exact Or.inr rfl) (me_var 3))))))
      (ms_one (ms_ret (me_give 1)))))), F.kp, F.bindsN fun _ _ _ _ _ _ us hl => match us, hl with | [_], _ => rfl⟩
def m__law_partitions : M Fl := sSeq (sAsg 1 (eIf (t2 cGt (eV 0) (eC (.int 0))) (eN fLst (aCons (eN fTup (aCons (eV 0) (aCons (eN fTup (aNil)) (aNil)))) (aNil))) (eN fLst (aCons (eN fTup (aCons (eC (.int 0)) (aCons (eN fTup (aNil)) (aNil)))) (aNil)))))
      (sSeq (sFor (iN rg3 (aCons (eV 0) (aCons (eC (.int 0)) (aCons (e1 fNeg (eC (.int 1))) (aNil))))) (gNm 2)
      (sSeq (sAsg 3 (eN fLst (aNil)))
      (sSeq (sFor (iV itS (eV 1)) (gTp 2 (gsCons (gNm 4) (gsCons (gNm 5) (gsNil))))
      (sFor (iN rg1 (aCons (e2 fAdd (e2 fFdiv (eV 4) (eV 2)) (eC (.int 1))) (aNil))) (gNm 6)
      (sDrop (eOwn 3 isLst fAppend (aCons (eN fTup (aCons (e2 fSub (eV 4) (e2 fMul (eV 6) (eV 2))) (aCons (e2 fAdd (eV 5) (e2 fMul (eN fTup (aCons (eV 2) (aNil))) (eV 6))) (aNil)))) (aNil))))))
      (sAsg 1 (eV 3)))))
      (sRet (eRevX (eN fSorted (aCons (eLc (iV itS (eV 1)) (gTp 2 (gsCons (gNm 4) (gsCons (gNm 5) (gsNil)))) (t2 cEq (eV 4) (eC (.int 0))) (eV 5) [4, 5]) (aNil))))))
def f__law_partitions : List D → FO := mFn 7 m__law_partitions
theorem ok__law_partitions (T : Txt K mg) : Good (CC K) P w K mg base 1 33 1 (f__law_partitions) := by
  obtain ⟨fd, F⟩ := T.f__law_partitions
  exact ⟨fd, ["n"], fn_ok F sc__law_partitions (fun cdv A outer s H E B hr => (ms_cons (ms_set (i := 1) sc__law_partitions.nd rfl (by first | exact Or.inl rfl | exact Or.inr rfl) (me_if (mt_cmp op_gt p_gt (me_var 0) me_int (nomark _)) (me_lst (ma_cons (me_tup (ma_cons (me_var 0) (ma_cons (me_tup ma_nil) ma_nil))) ma_nil)) (me_lst (ma_cons (me_tup (ma_cons me_int (ma_cons (me_tup ma_nil) ma_nil))) ma_nil))))
      (ms_cons (ms_for (passes_of rfl) rfl (mi_range3 (by rfl) T.z_range (ma_cons (me_var 0) (ma_cons me_int (ma_cons (me_e1 un_neg p_neg me_int) ma_nil)))) (mg_name (i := 2) sc__law_partitions.nd rfl (by first | exact Or.inl rfl | exact Or.inr rfl)) (ms_cons (ms_set (i := 3) sc__law_partitions.nd rfl (by first | exact Or.inl rfl | exact Or.inr rfl) (me_lst ma_nil))
      (ms_cons (ms_for (passes_of rfl) rfl (mi_seq rfl (me_var 1)) (mg_tup rfl rfl (mgs_cons (mg_name (i := 4) sc__law_partitions.nd rfl (by first | exact Or.inl rfl | exact Or.inr rfl)) (mgs_cons (mg_name (i := 5) sc__law_partitions.nd rfl (by first | exact Or.inl rfl | exact Or.inr rfl)) mgs_nil))) (ms_one (ms_for (passes_of rfl) rfl (mi_range1 (by rfl) T.z_range (ma_cons (me_op op_addX (p_add rfl) (me_op op_fdivX p_fdiv (me_var 4) (me_var 2)) me_int) ma_nil)) (mg_name (i := 6) sc__law_partitions.nd rfl (by first | exact Or.inl rfl | exact Or.inr rfl)) (ms_one (ms_expr (me_own 3 PySem.F.plainAttrs_list PySem.F.slot_list_append PySem.F.type_list_append mt_append (fun _ _ _ _ o h => ty_list o h) own_append (ma_cons (me_tup (ma_cons (me_op op_subX p_sub (me_var 4) (me_op op_mulA (p_mulA rfl) (me_var 6) (me_var 2))) (ma_cons (me_op op_addX (p_add rfl) (me_var 5) (me_op op_mulA (p_mulA rfl) (me_tup (ma_cons (me_var 2) ma_nil)) (me_var 6))) ma_nil))) ma_nil)))))))
      (ms_one (ms_set (i := 1) sc__law_partitions.nd rfl (by first | exact Or.inl rfl | exact Or.inr rfl) (me_var 3))))))
      (ms_one (ms_ret (me_revX rfl (me_callB cr_sortedX (n_sorted rfl) (by rfl) T.z_sorted (by decide +kernel) (ma_cons (me_lc [("left", 4), ("own", 5)] rfl sc__law_partitions.nd (mi_seq rfl (me_var 1)) (blkOk_by (N := ["n", "found", "c", "longer", "left", "own", "k"]) (sc := defScope s__law_partitions) (own := [("left", 4), ("own", 5)]) (by decide +kernel)) (fun _ _ _ _ _ _ => (mg_tup rfl rfl (mgs_cons (mg_name (i := 4) sc__law_partitions.nd rfl (by first | exact Or.inl rfl | exact Or.inr rfl)) (mgs_cons (mg_name (i := 5) sc__law_partitions.nd rfl (by first | exact Or.inl rfl | exact Or.inr rfl)) mgs_nil)))) (fun _ _ _ _ _ _ => (mts_one (mt_cmp (op_eqD hr.units) (p_eq rfl) (me_var 4) me_int (nomark _)))) (fun _ _ _ _ _ _ => (me_var 5))) ma_nil)))))))), F.kp, F.bindsN fun _ _ _ _ _ _ us hl => match us, hl with | [_], _ => rfl⟩
def m_is_row : M Fl := sRet (eAnd (eN fIsi (aCons (eV 0) (aCons (eC (.ty .tuple)) (aNil)))) (eN fAll (aCons (eLc (iV itS (eV 0)) (gNm 1) (tTrue) (eCall 1 f_is_integer (aCons (eV 1) (aNil))) [1]) (aNil))))
def f_is_row : List D → FO := mFn 2 m_is_row
theorem ok_is_row (T : Txt K mg) : Good (CC K) P w K mg base 2 4 1 (f_is_row) := by
  obtain ⟨fd, F⟩ := T.f_is_row
  exact ⟨fd, ["value"], fn_ok F sc_is_row (fun cdv A outer s H E B hr => (ms_one (ms_ret (me_and (me_callB call_isi (n_isi rfl) (by rfl) T.z_isinstance (by decide +kernel) (ma_cons (me_var 0) (ma_cons (me_ty .tuple (by rfl) T.z_tuple (by decide +kernel)) ma_nil))) (me_one (me_callB (cr_all rfl) (n_all rfl) (by rfl) T.z_all (by decide +kernel) (ma_cons (me_lc [("c", 1)] rfl sc_is_row.nd (mi_seq rfl (me_var 0)) (blkOk_by (N := ["value", "c"]) (sc := defScope s_is_row) (own := [("c", 1)]) (by decide +kernel)) (fun _ _ _ _ _ _ => (mg_name (i := 1) sc_is_row.nd rfl (by first | exact Or.inl rfl | exact Or.inr rfl))) (fun _ _ _ _ _ _ => mts_nil) (fun _ _ _ _ _ _ => (me_call (ok_is_integer T) (hr.mono (by decide)) (by rfl) T.g_is_integer takes0 (ma_cons (me_var 1) ma_nil)))) ma_nil))))))), F.kp, F.bindsN fun _ _ _ _ _ _ us hl => match us, hl with | [_], _ => rfl⟩
def m_check_from : M Fl := sIf (MM.tOr (MM.tNot (tV (eCall 1 f_is_integer (aCons (eV 0) (aNil))))) (MM.tNot (MM.tChain cLe cLe (eV 1) (eV 0) (eV 2))))
      (sRaise ⟨1, none⟩) (sNx)
def f_check_from : List D → FO := mFn 3 m_check_from
theorem ok_check_from (T : Txt K mg) : Good (CC K) P w K mg base 2 5 3 (f_check_from) := by
  obtain ⟨fd, F⟩ := T.f_check_from
  exact ⟨fd, ["n", "low", "high"], fn_ok F sc_check_from (fun cdv A outer s H E B hr => (ms_one (ms_if (PW.pt (mw_or (mt_not (mt_v rfl (me_call (ok_is_integer T) (hr.mono (by decide)) (by rfl) T.g_is_integer (takes_of rfl rfl rfl rfl) (ma_cons (me_var 0) ma_nil)))) (mw_o1 (mt_not (mt_chain op_le op_le p_le p_le (me_var 1) (me_var 0) (me_var 2)))))) (ms_one (ms_raise rfl (takes_of rfl rfl rfl rfl) T.x_Malformed.e.1 T.g_Malformed T.x_Malformed.e.2.1 T.x_Malformed.raises (by rfl))) ms_nil))), F.kp, F.bindsN fun _ _ _ _ _ _ us hl => match us, hl with | [_, _, _], _ => rfl⟩
def m_common_of : M Fl := sSeq (sAsg 1 (eC (.int 0)))
      (sSeq (sFor (iV itS (eV 0)) (gNm 2)
      (sSeq (sAsg 1 (eCall 2 f_common (aCons (eV 1) (aCons (eV 2) (aNil)))))
      (sIf (t2 cEq (eV 1) (eC (.int 1)))
      (sRet (eC (.int 1))) (sNx))))
      (sRet (eGive 1)))
def f_common_of : List D → FO := mFn 3 m_common_of
theorem ok_common_of (T : Txt K mg) : Good (CC K) P w K mg base 2 7 1 (f_common_of) := by
  obtain ⟨fd, F⟩ := T.f_common_of
  exact ⟨fd, ["row"], fn_ok F sc_common_of (fun cdv A outer s H E B hr => (ms_cons (ms_set (i := 1) sc_common_of.nd rfl (by first | exact Or.inl rfl | exact Or.inr rfl) me_int)
      (ms_cons (ms_for (passes_of rfl) rfl (mi_seq rfl (me_var 0)) (mg_name (i := 2) sc_common_of.nd rfl (by first | exact Or.inl rfl | exact Or.inr rfl)) (ms_cons (ms_set (i := 1) sc_common_of.nd rfl (by first | exact Or.inl rfl | exact Or.inr rfl) (me_call (ok_common T) (hr.mono (by decide)) (by rfl) T.g_common (takes_of rfl rfl rfl rfl) (ma_cons (me_var 1) (ma_cons (me_var 2) ma_nil))))
      (ms_one (ms_if (mt_cmp (op_eqD hr.units) (p_eq rfl) (me_var 1) me_int (nomark _)) (ms_one (ms_ret me_int)) ms_nil))))
      (ms_one (ms_ret (me_give 1)))))), F.kp, F.bindsN fun _ _ _ _ _ _ us hl => match us, hl with | [_], _ => rfl⟩
def m_least_multiple : M Fl := sSeq (sAsg 1 (eC (.int 1)))
      (sSeq (sFor (iV itS (eV 0)) (gNm 2)
      (sAsg 1 (e2 fMul (e2 fFdiv (eV 1) (eCall 2 f_common (aCons (eV 1) (aCons (eV 2) (aNil))))) (eV 2))))
      (sRet (eGive 1)))
def f_least_multiple : List D → FO := mFn 3 m_least_multiple
theorem ok_least_multiple (T : Txt K mg) : Good (CC K) P w K mg base 2 8 1 (f_least_multiple) := by
  obtain ⟨fd, F⟩ := T.f_least_multiple
  exact ⟨fd, ["row"], fn_ok F sc_least_multiple (fun cdv A outer s H E B hr => (ms_cons (ms_set (i := 1) sc_least_multiple.nd rfl (by first | exact Or.inl rfl | exact Or.inr rfl) me_int)
      (ms_cons (ms_for (passes_of rfl) rfl (mi_seq rfl (me_var 0)) (mg_name (i := 2) sc_least_multiple.nd rfl (by first | exact Or.inl rfl | exact Or.inr rfl)) (ms_one (ms_set (i := 1) sc_least_multiple.nd rfl (by first | exact Or.inl rfl | exact Or.inr rfl) (me_op op_mulA (p_mulA rfl) (me_op op_fdivX p_fdiv (me_var 1) (me_call (ok_common T) (hr.mono (by decide)) (by rfl) T.g_common (takes_of rfl rfl rfl rfl) (ma_cons (me_var 1) (ma_cons (me_var 2) ma_nil)))) (me_var 2)))))
      (ms_one (ms_ret (me_give 1)))))), F.kp, F.bindsN fun _ _ _ _ _ _ us hl => match us, hl with | [_], _ => rfl⟩
def m_partitions_of : M Fl := sSeq (sDrop (eCall 3 f_check_from (aCons (eV 0) (aCons (eC (.int 0)) (aCons (eC (.int 30)) (aNil))))))
      (sSeq (sPar2 1 2 (eN fLst (aNil)) (eN fLst (aCons (eN fTup (aCons (eN fTup (aNil)) (aCons (eV 0) (aNil)))) (aNil))))
      (sSeq (whL (t2 cGt (eLenO 2) (eC (.int 0)))
      (sSeq (sAsgG (gTp 2 (gsCons (gNm 3) (gsCons (gNm 4) (gsNil)))) (eOwn 2 isLst fPop aNil))
      (sIf (t2 cEq (eV 4) (eC (.int 0)))
      (sDrop (eOwn 1 isLst fAppend (aCons (eV 3) (aNil)))) (sSeq (sAsg 5 (eIf (t2 cGt (eN fLen (aCons (eV 3) (aNil))) (eC (.int 0))) (eN fMin2 (aCons (eV 4) (aCons (e2 fIx (eV 3) (e1 fNeg (eC (.int 1)))) (aNil)))) (eV 4)))
      (sDrop (eOwn 2 isLst fExtend (aCons (eLc (iN rg2 (aCons (eC (.int 1)) (aCons (e2 fAdd (eV 5) (eC (.int 1))) (aNil)))) (gNm 6) (tTrue) (eN fTup (aCons (e2 fAdd (eV 3) (eN fTup (aCons (eV 6) (aNil)))) (aCons (e2 fSub (eV 4) (eV 6)) (aNil)))) [6]) (aNil))))))) 1000000000)
      (sRet (eGive 1))))
def f_partitions_of : List D → FO := mFn 7 m_partitions_of
theorem ok_partitions_of (T : Txt K mg) : Good (CC K) P w K mg base 3 18 1 (f_partitions_of) := by
  obtain ⟨fd, F⟩ := T.f_partitions_of
  exact ⟨fd, ["n"], fn_ok F sc_partitions_of (fun cdv A outer s H E B hr => (ms_cons (ms_expr (me_call (ok_check_from T) (hr.mono (by decide)) (by rfl) T.g_check_from (takes_of rfl rfl rfl rfl) (ma_cons (me_var 0) (ma_cons me_int (ma_cons me_int ma_nil)))))
      (ms_cons (ms_par2 (i := 1) (j := 2) rfl sc_partitions_of.nd rfl rfl (by decide) rfl rfl (me_lst ma_nil) (fun _ => (me_lst (ma_cons (me_tup (ma_cons (me_tup ma_nil) (ma_cons (me_var 0) ma_nil))) ma_nil))) (by rfl))
      (ms_cons (ms_while 1000000000 (passes_of rfl) (mt_cmp op_gt p_gt (me_lenO rfl 2 (by rfl) T.z_len) me_int (nomark _)) (ms_cons (ms_asg (me_own0 2 PySem.F.plainAttrs_list PySem.F.slot_list_pop PySem.F.type_list_pop mt_pop (fun _ _ _ _ o h => ty_list o h) own_pop) (mg_tup rfl rfl (mgs_cons (mg_name (i := 3) sc_partitions_of.nd rfl (by first | exact Or.inl rfl | exact Or.inr rfl)) (mgs_cons (mg_name (i := 4) sc_partitions_of.nd rfl (by first | exact Or.inl rfl | exact Or.inr rfl)) mgs_nil))))
      (ms_one (ms_if (mt_cmp (op_eqD hr.units) (p_eq rfl) (me_var 4) me_int (nomark _)) (ms_one (ms_expr (me_own 1 PySem.F.plainAttrs_list PySem.F.slot_list_append PySem.F.type_list_append mt_append (fun _ _ _ _ o h => ty_list o h) own_append (ma_cons (me_var 3) ma_nil)))) (ms_cons (ms_set (i := 5) sc_partitions_of.nd rfl (by first | exact Or.inl rfl | exact Or.inr rfl) (me_if (mt_cmp op_gt p_gt (me_callB cr_lenX (n_len rfl) (by rfl) T.z_len (by decide +kernel) (ma_cons (me_var 3) ma_nil)) me_int (nomark _)) (me_callB (call_min2 rfl) n_min2 (by rfl) T.z_min (by decide +kernel) (ma_cons (me_var 4) (ma_cons (me_ix ix_seq (p_ix rfl) (me_var 3) (me_e1 un_neg p_neg me_int) (fun _ _ => rfl)) ma_nil))) (me_var 4)))
      (ms_one (ms_expr (me_own 2 PySem.F.plainAttrs_list PySem.F.slot_list_extend PySem.F.type_list_extend mt_extend (fun _ _ _ _ o h => ty_list o h) own_extend (ma_cons (me_lc [("c", 6)] rfl sc_partitions_of.nd (mi_range2 (by rfl) T.z_range (ma_cons me_int (ma_cons (me_op op_addX (p_add rfl) (me_var 5) me_int) ma_nil))) (blkOk_by (N := ["n", "found", "line", "own", "left", "most", "c"]) (sc := defScope s_partitions_of) (own := [("c", 6)]) (by decide +kernel)) (fun _ _ _ _ _ _ => (mg_name (i := 6) sc_partitions_of.nd rfl (by first | exact Or.inl rfl | exact Or.inr rfl))) (fun _ _ _ _ _ _ => mts_nil) (fun _ _ _ _ _ _ => (me_tup (ma_cons (me_op op_addX (p_add rfl) (me_var 3) (me_tup (ma_cons (me_var 6) ma_nil))) (ma_cons (me_op op_subX p_sub (me_var 4) (me_var 6)) ma_nil))))) ma_nil)))))))))
      (ms_one (ms_ret (me_give 1))))))), F.kp, F.bindsN fun _ _ _ _ _ _ us hl => match us, hl with | [_], _ => rfl⟩
def m_is_partition : M Fl := sRet (eAnd (eCall 1 f_is_row (aCons (eV 0) (aNil))) (eAnd (eN fAll (aCons (eLc (iV itS (eV 0)) (gNm 1) (tTrue) (e2 (cmp cGt) (eV 1) (eC (.int 0))) [1]) (aNil))) (eN fAll (aCons (eLc (iN zipD (aCons (eV 0) (aCons (eSl (eV 0) (some (eC (.int 1))) none) (aNil)))) (gTp 2 (gsCons (gNm 2) (gsCons (gNm 3) (gsNil)))) (tTrue) (e2 (cmp cGe) (eV 2) (eV 3)) [2, 3]) (aNil)))))
def f_is_partition : List D → FO := mFn 4 m_is_partition
theorem ok_is_partition (T : Txt K mg) : Good (CC K) P w K mg base 3 19 1 (f_is_partition) := by
  obtain ⟨fd, F⟩ := T.f_is_partition
  exact ⟨fd, ["value"], fn_ok F sc_is_partition (fun cdv A outer s H E B hr => (ms_one (ms_ret (me_and (me_call (ok_is_row T) (hr.mono (by decide)) (by rfl) T.g_is_row (takes_of rfl rfl rfl rfl) (ma_cons (me_var 0) ma_nil)) (me_and (me_callB (cr_all rfl) (n_all rfl) (by rfl) T.z_all (by decide +kernel) (ma_cons (me_lc [("c", 1)] rfl sc_is_partition.nd (mi_seq rfl (me_var 0)) (blkOk_by (N := ["value", "c", "a", "b"]) (sc := defScope s_is_partition) (own := [("c", 1)]) (by decide +kernel)) (fun _ _ _ _ _ _ => (mg_name (i := 1) sc_is_partition.nd rfl (by first | exact Or.inl rfl | exact Or.inr rfl))) (fun _ _ _ _ _ _ => mts_nil) (fun _ _ _ _ _ _ => (me_cmp op_gt p_gt (me_var 1) me_int (nomark _)))) ma_nil)) (me_one (me_callB (cr_all rfl) (n_all rfl) (by rfl) T.z_all (by decide +kernel) (ma_cons (me_lc [("a", 2), ("b", 3)] rfl sc_is_partition.nd (mi_zip rfl (by rfl) T.z_zip (ma_cons (me_var 0) (ma_cons (me_sl rfl (me_var 0) (mo_some me_int) mo_none) ma_nil))) (blkOk_by (N := ["value", "c", "a", "b"]) (sc := defScope s_is_partition) (own := [("a", 2), ("b", 3)]) (by decide +kernel)) (fun _ _ _ _ _ _ => (mg_tup rfl rfl (mgs_cons (mg_name (i := 2) sc_is_partition.nd rfl (by first | exact Or.inl rfl | exact Or.inr rfl)) (mgs_cons (mg_name (i := 3) sc_is_partition.nd rfl (by first | exact Or.inl rfl | exact Or.inr rfl)) mgs_nil)))) (fun _ _ _ _ _ _ => mts_nil) (fun _ _ _ _ _ _ => (me_cmp op_ge p_ge (me_var 2) (me_var 3) (nomark _)))) ma_nil)))))))), F.kp, F.bindsN fun _ _ _ _ _ _ us hl => match us, hl with | [_], _ => rfl⟩
def m__law_told (T1 : Nat → Option (List D → FO)) (T2 : Nat → Option (List D → FO)) (T3 : Nat → Option (List D → FO)) (T4 : Nat → Option (List D → FO)) (T5 : Nat → Option (List D → FO)) : M Fl := sTry sub (sSeq (sIf (t2 cGt (eN fLen (aCons (eV 1) (aNil))) (eC (.int 3)))
      (sRet (eN fTup (aCons (eC (.str "told")) (aCons (eIf (t2 cEq (eN fLen (aCons (eV 1) (aNil))) (eC (.int 4))) (eCallL 4 0 T4 (aCons (e2 fIx (eV 1) (eC (.int 0))) (aCons (e2 fIx (eV 1) (eC (.int 1))) (aCons (e2 fIx (eV 1) (eC (.int 2))) (aCons (e2 fIx (eV 1) (eC (.int 3))) (aNil)))))) (eCallL 5 0 T5 (aCons (e2 fIx (eV 1) (eC (.int 0))) (aCons (e2 fIx (eV 1) (eC (.int 1))) (aCons (e2 fIx (eV 1) (eC (.int 2))) (aCons (e2 fIx (eV 1) (eC (.int 3))) (aCons (e2 fIx (eV 1) (eC (.int 4))) (aNil)))))))) (aNil))))) (sNx))
      (sRet (eN fTup (aCons (eC (.str "told")) (aCons (eIf (t2 cEq (eN fLen (aCons (eV 1) (aNil))) (eC (.int 1))) (eCallL 1 0 T1 (aCons (e2 fIx (eV 1) (eC (.int 0))) (aNil))) (eIf (t2 cEq (eN fLen (aCons (eV 1) (aNil))) (eC (.int 2))) (eCallL 2 0 T2 (aCons (e2 fIx (eV 1) (eC (.int 0))) (aCons (e2 fIx (eV 1) (eC (.int 1))) (aNil)))) (eCallL 3 0 T3 (aCons (e2 fIx (eV 1) (eC (.int 0))) (aCons (e2 fIx (eV 1) (eC (.int 1))) (aCons (e2 fIx (eV 1) (eC (.int 2))) (aNil))))))) (aNil)))))) [⟨1, none, fun _ => sRet (eN fTup (aCons (eC (.str "malformed")) (aCons (eC .non) (aNil))))⟩, ⟨2, (some 2), fun _ => (fun _ => .stuck)⟩]
def f__law_told (T1 : Nat → Option (List D → FO)) (T2 : Nat → Option (List D → FO)) (T3 : Nat → Option (List D → FO)) (T4 : Nat → Option (List D → FO)) (T5 : Nat → Option (List D → FO)) : List D → FO := mFn 3 (m__law_told T1 T2 T3 T4 T5)
theorem ok__law_told (T : Txt K mg) {T1 : Nat → Option (List D → FO)} (A1 : Tab (CC K) P w K mg base 12 1 T1) {T2 : Nat → Option (List D → FO)} (A2 : Tab (CC K) P w K mg base 12 2 T2) {T3 : Nat → Option (List D → FO)} (A3 : Tab (CC K) P w K mg base 12 3 T3) {T4 : Nat → Option (List D → FO)} (A4 : Tab (CC K) P w K mg base 12 4 T4) {T5 : Nat → Option (List D → FO)} (A5 : Tab (CC K) P w K mg base 12 5 T5) : Good (CC K) P w K mg base 13 27 2 (f__law_told T1 T2 T3 T4 T5) := by
  obtain ⟨fd, F⟩ := T.f__law_told
  exact ⟨fd, ["act", "given"], fn_ok F sc__law_told (fun cdv A outer s H E B hr => (ms_one (ms_try T.sub rfl rfl (takes_of rfl rfl rfl rfl) (fun _ _ _ tk_ hp_ => (ms_cons (ms_if (mt_cmp op_gt p_gt (me_callB cr_lenX (n_len rfl) (by rfl) T.z_len (by decide +kernel) (ma_cons (me_var 1) ma_nil)) me_int (nomark _)) (ms_one (ms_ret (me_tup (ma_cons me_str (ma_cons (me_if (mt_cmp (op_eqD hr.units) (p_eq rfl) (me_callB cr_lenX (n_len rfl) (by rfl) T.z_len (by decide +kernel) (ma_cons (me_var 1) ma_nil)) me_int (nomark _)) (me_callL 0 A4 (hr.mono (by decide)) tk_ (ma_cons (me_ix ix_seq (p_ix rfl) (me_var 1) me_int (fun _ _ => rfl)) (ma_cons (me_ix ix_seq (p_ix rfl) (me_var 1) me_int (fun _ _ => rfl)) (ma_cons (me_ix ix_seq (p_ix rfl) (me_var 1) me_int (fun _ _ => rfl)) (ma_cons (me_ix ix_seq (p_ix rfl) (me_var 1) me_int (fun _ _ => rfl)) ma_nil))))) (me_callL 0 A5 (hr.mono (by decide)) tk_ (ma_cons (me_ix ix_seq (p_ix rfl) (me_var 1) me_int (fun _ _ => rfl)) (ma_cons (me_ix ix_seq (p_ix rfl) (me_var 1) me_int (fun _ _ => rfl)) (ma_cons (me_ix ix_seq (p_ix rfl) (me_var 1) me_int (fun _ _ => rfl)) (ma_cons (me_ix ix_seq (p_ix rfl) (me_var 1) me_int (fun _ _ => rfl)) (ma_cons (me_ix ix_seq (p_ix rfl) (me_var 1) me_int (fun _ _ => rfl)) ma_nil))))))) ma_nil))))) ms_nil)
      (ms_one (ms_ret (me_tup (ma_cons me_str (ma_cons (me_if (mt_cmp (op_eqD hr.units) (p_eq rfl) (me_callB cr_lenX (n_len rfl) (by rfl) T.z_len (by decide +kernel) (ma_cons (me_var 1) ma_nil)) me_int (nomark _)) (me_callL 0 A1 (hr.mono (by decide)) tk_ (ma_cons (me_ix ix_seq (p_ix rfl) (me_var 1) me_int (fun _ _ => rfl)) ma_nil)) (me_if (mt_cmp (op_eqD hr.units) (p_eq rfl) (me_callB cr_lenX (n_len rfl) (by rfl) T.z_len (by decide +kernel) (ma_cons (me_var 1) ma_nil)) me_int (nomark _)) (me_callL 0 A2 (hr.mono (by decide)) tk_ (ma_cons (me_ix ix_seq (p_ix rfl) (me_var 1) me_int (fun _ _ => rfl)) (ma_cons (me_ix ix_seq (p_ix rfl) (me_var 1) me_int (fun _ _ => rfl)) ma_nil))) (me_callL 0 A3 (hr.mono (by decide)) tk_ (ma_cons (me_ix ix_seq (p_ix rfl) (me_var 1) me_int (fun _ _ => rfl)) (ma_cons (me_ix ix_seq (p_ix rfl) (me_var 1) me_int (fun _ _ => rfl)) (ma_cons (me_ix ix_seq (p_ix rfl) (me_var 1) me_int (fun _ _ => rfl)) ma_nil)))))) ma_nil))))))) (MHds.plain ⟨by rfl, by decide, .inl T.g_Malformed⟩ rfl (fun _ _ _ _ _ _ _ _ => (ms_one (ms_ret (me_tup (ma_cons me_str (ma_cons me_non ma_nil)))))) (MHds.as (i := 2) sc__law_told.nd rfl rfl ⟨by rfl, by decide, .inl T.g_Refused⟩ rfl (fun _ _ _ _ _ _ _ _ => ms_never) MHds.nil))))), F.kp, F.bindsN fun _ _ _ _ _ _ us hl => match us, hl with | [_, _], _ => rfl⟩
def m__law_same (self : List D → FO) : M Fl := sSeq (sIf (tV (eN fIsi (aCons (eV 1) (aCons (eC (.ty .bool)) (aNil)))))
      (sRet (eAnd (eN fIsi (aCons (eV 0) (aCons (eC (.ty .bool)) (aNil)))) (e2 (cmp cEq) (eV 0) (eV 1)))) (sNx))
      (sSeq (sIf (tV (eN fIsi (aCons (eV 1) (aCons (eC (.ty .tuple)) (aNil)))))
      (sRet (eAnd (eN fIsi (aCons (eV 0) (aCons (eC (.ty .tuple)) (aNil)))) (eAnd (e2 (cmp cEq) (eN fLen (aCons (eV 0) (aNil))) (eN fLen (aCons (eV 1) (aNil)))) (eN fAll (aCons (eLc (iN rg1 (aCons (eN fLen (aCons (eV 1) (aNil))) (aNil))) (gNm 2) (tTrue) (eCall 2 self (aCons (e2 fIx (eV 0) (eV 2)) (aCons (e2 fIx (eV 1) (eV 2)) (aNil)))) [2]) (aNil)))))) (sNx))
      (sSeq (sIf (tV (eN fIsi (aCons (eV 1) (aCons (eC (.ty .list)) (aNil)))))
      (sRet (eAnd (eN fIsi (aCons (eV 0) (aCons (eC (.ty .tuple)) (aNil)))) (eCall 2 self (aCons (eV 0) (aCons (eN fTupOf (aCons (eV 1) (aNil))) (aNil)))))) (sNx))
      (sSeq (sIf (tV (eN fIsi (aCons (eV 1) (aCons (eC (.ty .str)) (aNil)))))
      (sRet (eAnd (eN fIsi (aCons (eV 0) (aCons (eC (.ty .str)) (aNil)))) (e2 (cmp cEq) (eV 0) (eV 1)))) (sNx))
      (sSeq (sIf (t2 cIsN (eV 1) (eC .non))
      (sRet (e2 (cmp cIsN) (eV 0) (eC .non))) (sNx))
      (sRet (eAnd (eCall 1 f__law_is_whole (aCons (eV 0) (aNil))) (e2 (cmp cEq) (eV 0) (eV 1))))))))
def f__law_same : Nat → List D → FO
  | 0, _ => .stuck
  | n + 1, ds => mFn 3 (m__law_same (f__law_same n)) ds
theorem ok__law_same (T : Txt K mg) (n : Nat) (h : n ≤ 12 := by decide) : Good (CC K) P w K mg base (n + 2) 26 2 (f__law_same n) := by
  induction n with
  | zero =>
    obtain ⟨fd, F⟩ := T.f__law_same
    exact ⟨fd, ["one", "two"], (fn_ok (C := CC K) F sc__law_same (k := 0) (m := fun _ => .stuck) (fun cdv A outer s H E B hr => ms_never)).mono (by omega) |>.imp (fun vs H Q E h => by obtain ⟨F, ds, a, b, c, d⟩ := h; exact d.elim), F.kp, F.bindsN fun _ _ _ _ _ _ us hl => match us, hl with | [_, _], _ => rfl⟩
  | succ j ih =>
    have G_ := ih (by omega)
    obtain ⟨fd, F⟩ := T.f__law_same
    exact ⟨fd, ["one", "two"], (fn_ok F sc__law_same (k := j + 2) (m := m__law_same (f__law_same j)) (fun cdv A outer s H E B hr => (ms_cons (ms_if (mt_v rfl (me_callB call_isi (n_isi rfl) (by rfl) T.z_isinstance (by decide +kernel) (ma_cons (me_var 1) (ma_cons (me_ty .bool (by rfl) T.z_bool (by decide +kernel)) ma_nil)))) (ms_one (ms_ret (me_and (me_callB call_isi (n_isi rfl) (by rfl) T.z_isinstance (by decide +kernel) (ma_cons (me_var 0) (ma_cons (me_ty .bool (by rfl) T.z_bool (by decide +kernel)) ma_nil))) (me_one (me_cmp (op_eqD hr.units) (p_eq rfl) (me_var 0) (me_var 1) (nomark _)))))) ms_nil)
      (ms_cons (ms_if (mt_v rfl (me_callB call_isi (n_isi rfl) (by rfl) T.z_isinstance (by decide +kernel) (ma_cons (me_var 1) (ma_cons (me_ty .tuple (by rfl) T.z_tuple (by decide +kernel)) ma_nil)))) (ms_one (ms_ret (me_and (me_callB call_isi (n_isi rfl) (by rfl) T.z_isinstance (by decide +kernel) (ma_cons (me_var 0) (ma_cons (me_ty .tuple (by rfl) T.z_tuple (by decide +kernel)) ma_nil))) (me_and (me_cmp (op_eqD hr.units) (p_eq rfl) (me_callB cr_lenX (n_len rfl) (by rfl) T.z_len (by decide +kernel) (ma_cons (me_var 0) ma_nil)) (me_callB cr_lenX (n_len rfl) (by rfl) T.z_len (by decide +kernel) (ma_cons (me_var 1) ma_nil)) (nomark _)) (me_one (me_callB (cr_all rfl) (n_all rfl) (by rfl) T.z_all (by decide +kernel) (ma_cons (me_lc [("k", 2)] rfl sc__law_same.nd (mi_range1 (by rfl) T.z_range (ma_cons (me_callB cr_lenX (n_len rfl) (by rfl) T.z_len (by decide +kernel) (ma_cons (me_var 1) ma_nil)) ma_nil)) (blkOk_by (N := ["one", "two", "k"]) (sc := defScope s__law_same) (own := [("k", 2)]) (by decide +kernel)) (fun _ _ _ _ _ _ => (mg_name (i := 2) sc__law_same.nd rfl (by first | exact Or.inl rfl | exact Or.inr rfl))) (fun _ _ _ _ _ _ => mts_nil) (fun _ _ _ _ _ _ => (me_call G_ (hr.mono (by omega)) (by rfl) T.g__law_same takes0 (ma_cons (me_ix ix_seq (p_ix rfl) (me_var 0) (me_var 2) (fun _ _ => rfl)) (ma_cons (me_ix ix_seq (p_ix rfl) (me_var 1) (me_var 2) (fun _ _ => rfl)) ma_nil))))) ma_nil))))))) ms_nil)
      (ms_cons (ms_if (mt_v rfl (me_callB call_isi (n_isi rfl) (by rfl) T.z_isinstance (by decide +kernel) (ma_cons (me_var 1) (ma_cons (me_ty .list (by rfl) T.z_list (by decide +kernel)) ma_nil)))) (ms_one (ms_ret (me_and (me_callB call_isi (n_isi rfl) (by rfl) T.z_isinstance (by decide +kernel) (ma_cons (me_var 0) (ma_cons (me_ty .tuple (by rfl) T.z_tuple (by decide +kernel)) ma_nil))) (me_one (me_call G_ (hr.mono (by omega)) (by rfl) T.g__law_same (takes_of rfl rfl rfl rfl) (ma_cons (me_var 0) (ma_cons (me_callTy call_tuple_of (n_tupOf rfl) (by rfl) T.z_tuple (by decide +kernel) (ma_cons (me_var 1) ma_nil)) ma_nil))))))) ms_nil)
      (ms_cons (ms_if (mt_v rfl (me_callB call_isi (n_isi rfl) (by rfl) T.z_isinstance (by decide +kernel) (ma_cons (me_var 1) (ma_cons (me_ty .str (by rfl) T.z_str (by decide +kernel)) ma_nil)))) (ms_one (ms_ret (me_and (me_callB call_isi (n_isi rfl) (by rfl) T.z_isinstance (by decide +kernel) (ma_cons (me_var 0) (ma_cons (me_ty .str (by rfl) T.z_str (by decide +kernel)) ma_nil))) (me_one (me_cmp (op_eqD hr.units) (p_eq rfl) (me_var 0) (me_var 1) (nomark _)))))) ms_nil)
      (ms_cons (ms_if (mt_cmp op_isN p_isN (me_var 1) me_non (nomark _)) (ms_one (ms_ret (me_cmp op_isN p_isN (me_var 0) me_non (nomark _)))) ms_nil)
      (ms_one (ms_ret (me_and (me_call (ok__law_is_whole T) (hr.mono (by omega)) (by rfl) T.g__law_is_whole (takes_of rfl rfl rfl rfl) (ma_cons (me_var 0) ma_nil)) (me_one (me_cmp (op_eqD hr.units) (p_eq rfl) (me_var 0) (me_var 1) (nomark _))))))))))))).mono (by omega), F.kp, F.bindsN fun _ _ _ _ _ _ us hl => match us, hl with | [_, _], _ => rfl⟩
def m__law_all_malformed (T1 : Nat → Option (List D → FO)) (T2 : Nat → Option (List D → FO)) (T3 : Nat → Option (List D → FO)) (T4 : Nat → Option (List D → FO)) (T5 : Nat → Option (List D → FO)) : M Fl := sRet (eN fAll (aCons (eLc (iV itS (eV 0)) (gTp 2 (gsCons (gNm 1) (gsCons (gNm 2) (gsNil)))) (tTrue) (e2 (cmp cEq) (eCall 2 (f__law_told T1 T2 T3 T4 T5) (aCons (eV 1) (aCons (eV 2) (aNil)))) (eN fTup (aCons (eC (.str "malformed")) (aCons (eC .non) (aNil))))) [1, 2]) (aNil)))
def f__law_all_malformed (T1 : Nat → Option (List D → FO)) (T2 : Nat → Option (List D → FO)) (T3 : Nat → Option (List D → FO)) (T4 : Nat → Option (List D → FO)) (T5 : Nat → Option (List D → FO)) : List D → FO := mFn 3 (m__law_all_malformed T1 T2 T3 T4 T5)
theorem ok__law_all_malformed (T : Txt K mg) {T1 : Nat → Option (List D → FO)} (A1 : Tab (CC K) P w K mg base 12 1 T1) {T2 : Nat → Option (List D → FO)} (A2 : Tab (CC K) P w K mg base 12 2 T2) {T3 : Nat → Option (List D → FO)} (A3 : Tab (CC K) P w K mg base 12 3 T3) {T4 : Nat → Option (List D → FO)} (A4 : Tab (CC K) P w K mg base 12 4 T4) {T5 : Nat → Option (List D → FO)} (A5 : Tab (CC K) P w K mg base 12 5 T5) : Good (CC K) P w K mg base 14 28 1 (f__law_all_malformed T1 T2 T3 T4 T5) := by
  obtain ⟨fd, F⟩ := T.f__law_all_malformed
  exact ⟨fd, ["tried"], fn_ok F sc__law_all_malformed (fun cdv A outer s H E B hr => (ms_one (ms_ret (me_callB (cr_all rfl) (n_all rfl) (by rfl) T.z_all (by decide +kernel) (ma_cons (me_lc [("act", 1), ("given", 2)] rfl sc__law_all_malformed.nd (mi_seq rfl (me_var 0)) (blkOk_by (N := ["tried", "act", "given"]) (sc := defScope s__law_all_malformed) (own := [("act", 1), ("given", 2)]) (by decide +kernel)) (fun _ _ _ _ _ _ => (mg_tup rfl rfl (mgs_cons (mg_name (i := 1) sc__law_all_malformed.nd rfl (by first | exact Or.inl rfl | exact Or.inr rfl)) (mgs_cons (mg_name (i := 2) sc__law_all_malformed.nd rfl (by first | exact Or.inl rfl | exact Or.inr rfl)) mgs_nil)))) (fun _ _ _ _ _ _ => mts_nil) (fun _ _ _ _ _ _ => (me_cmp (op_eqD hr.units) (p_eq rfl) (me_call (ok__law_told T A1 A2 A3 A4 A5) (hr.mono (by decide)) (by rfl) T.g__law_told takes0 (ma_cons (me_var 1) (ma_cons (me_var 2) ma_nil))) (me_tup (ma_cons me_str (ma_cons me_non ma_nil))) (nomark _)))) ma_nil))))), F.kp, F.bindsN fun _ _ _ _ _ _ us hl => match us, hl with | [_], _ => rfl⟩
def tab1 (c : Nat) : Option (List D → FO) := match c with
  | 18 => some f_partitions_of
  | _ => none
theorem tabok1 (T : Txt K mg) : Tab (CC K) P w K mg base 12 1 tab1 := ⟨fun c g h => by
  unfold tab1 at h
  split at h
  · cases h; exact (ok_partitions_of T).mono (by decide)
  · cases h⟩
def tab2 (c : Nat) : Option (List D → FO) := match c with
  | _ => none
theorem tabok2 (T : Txt K mg) : Tab (CC K) P w K mg base 12 2 tab2 := ⟨fun c g h => by
  unfold tab2 at h
  split at h
  · cases h⟩
def tab3 (c : Nat) : Option (List D → FO) := match c with
  | _ => none
theorem tabok3 (T : Txt K mg) : Tab (CC K) P w K mg base 12 3 tab3 := ⟨fun c g h => by
  unfold tab3 at h
  split at h
  · cases h⟩
def tab4 (c : Nat) : Option (List D → FO) := match c with
  | _ => none
theorem tabok4 (T : Txt K mg) : Tab (CC K) P w K mg base 12 4 tab4 := ⟨fun c g h => by
  unfold tab4 at h
  split at h
  · cases h⟩
def tab5 (c : Nat) : Option (List D → FO) := match c with
  | _ => none
theorem tabok5 (T : Txt K mg) : Tab (CC K) P w K mg base 12 5 tab5 := ⟨fun c g h => by
  unfold tab5 at h
  split at h
  · cases h⟩
def ml_0 : M Fl := sAsg 1 (eCall 1 f__law_state (aCons (eV 0) (aNil)))
def ml_1 : M Fl := sAsgG (gTp 2 (gsCons (gNm 2) (gsCons (gNm 3) (gsNil)))) (eN fTup (aCons (e2 fSub (eCallB 2 1 f__law_take (aCons (eC (.int 2001)) (aNil))) (eC (.int 1000))) (aCons (e2 fSub (eCallB 2 1 f__law_take (aCons (eC (.int 2001)) (aNil))) (eC (.int 1000))) (aNil))))
def ml_2 : M Fl := sAsg 4 (e2 fAdd (eC (.int 1)) (eCallB 2 1 f__law_take (aCons (eC (.int 300)) (aNil))))
def ml_3 : M Fl := sAsg 5 (eLc (iV itS (eCall 1 f__law_divisors (aCons (eN fMax3 (aCons (eN fAbs (aCons (eV 2) (aNil))) (aCons (eN fAbs (aCons (eV 3) (aNil))) (aCons (eC (.int 1)) (aNil))))) (aNil)))) (gNm 28) (MM.tAnd (t2 cEq (e2 fMod (eN fInt1 (aCons (eV 2) (aNil))) (eV 28)) (eC (.int 0))) (t2 cEq (e2 fMod (eN fInt1 (aCons (eV 3) (aNil))) (eV 28)) (eC (.int 0)))) (eV 28) [28])
def ml_4 : M Fl := sIf (MM.tOr (MM.tNot (tV (eCall 2 (f__law_same 11) (aCons (eCall 2 f_common (aCons (eV 2) (aCons (eV 3) (aNil)))) (aCons (eIf (MM.tAnd (t2 cEq (eV 2) (eC (.int 0))) (t2 cEq (eV 3) (eC (.int 0)))) (eC (.int 0)) (eN fMaxL (aCons (eV 5) (aNil)))) (aNil)))))) (MM.tNot (tV (eCall 2 (f__law_same 11) (aCons (eCall 2 f_common (aCons (eC (.int 0)) (aCons (eV 3) (aNil)))) (aCons (eN fAbs (aCons (eV 3) (aNil))) (aNil)))))))
      (sRet (eC (.bl false))) (sNx)
def ml_5 : M Fl := sAsg 6 (eN fTupOf (aCons (eLc (iN rg1 (aCons (eCallB 2 1 f__law_take (aCons (eC (.int 4)) (aNil))) (aNil))) (gNm 12) (tTrue) (e2 fSub (eCallB 2 1 f__law_take (aCons (eC (.int 200)) (aNil))) (eC (.int 100))) [12]) (aNil)))
def ml_6 : M Fl := sAsg 7 (eC (.int 0))
def ml_7 : M Fl := sFor (iV itS (eV 6)) (gNm 8)
      (sAsg 7 (eIf (MM.tOr (t2 cNe (eV 8) (eC (.int 0))) (t2 cNe (eV 7) (eC (.int 0)))) (eN fMaxL (aCons (e2 fAdd (eLc (iN rg2 (aCons (eC (.int 1)) (aCons (eC (.int 101)) (aNil)))) (gNm 28) (MM.tAnd (t2 cEq (e2 fMod (eN fInt1 (aCons (eV 8) (aNil))) (eV 28)) (eC (.int 0))) (MM.tOr (t2 cEq (eV 7) (eC (.int 0))) (t2 cEq (e2 fMod (eN fInt1 (aCons (eV 7) (aNil))) (eV 28)) (eC (.int 0))))) (eV 28) [28]) (eN fLst (aCons (eC (.int 0)) (aNil)))) (aNil))) (eC (.int 0))))
def ml_8 : M Fl := sIf (MM.tNot (tV (eCall 2 (f__law_same 11) (aCons (eCall 1 f_common_of (aCons (eV 6) (aNil))) (aCons (eV 7) (aNil))))))
      (sRet (eC (.bl false))) (sNx)
def ml_9 : M Fl := sAsg 9 (eN fTupOf (aCons (eLc (iN rg1 (aCons (eCallB 2 1 f__law_take (aCons (eC (.int 4)) (aNil))) (aNil))) (gNm 12) (tTrue) (e2 fAdd (eC (.int 1)) (eCallB 2 1 f__law_take (aCons (eC (.int 12)) (aNil)))) [12]) (aNil)))
def ml_10 : M Fl := sAsg 10 (eC (.int 1))
def ml_11 : M Fl := sFor (iV itS (eV 9)) (gNm 8)
      (sAsg 10 (e2 fMul (eV 10) (eV 8)))
def ml_12 : M Fl := sIf (MM.tNot (tV (eCall 2 (f__law_same 11) (aCons (eCall 1 f_least_multiple (aCons (eV 9) (aNil))) (aCons (e2 fIx (eLc (iN rg2 (aCons (eC (.int 1)) (aCons (e2 fAdd (eV 10) (eC (.int 1))) (aNil)))) (gNm 15) (tV (eN fAll (aCons (eLc (iV itS (eV 9)) (gNm 8) (tTrue) (e2 (cmp cEq) (e2 fMod (eN fInt1 (aCons (eV 15) (aNil))) (eV 8)) (eC (.int 0))) [8]) (aNil)))) (eV 15) [15]) (eC (.int 0))) (aNil))))))
      (sRet (eC (.bl false))) (sNx)
def ml_13 : M Fl := sIf (MM.tOr (MM.tNot (tV (eCall 2 (f__law_same 11) (aCons (eN fTupOf (aCons (eCall 1 f_divisors (aCons (eV 4) (aNil))) (aNil))) (aCons (eCall 1 f__law_divisors (aCons (eV 4) (aNil))) (aNil)))))) (MM.tOr (MM.tNot (tV (eN fIsi (aCons (eCall 1 f_divisors (aCons (eV 4) (aNil))) (aCons (eC (.ty .list)) (aNil)))))) (MM.tNot (tV (eCall 2 (f__law_same 11) (aCons (eCall 1 f_mobius (aCons (eV 4) (aNil))) (aCons (eCall 1 f__law_mobius (aCons (eV 4) (aNil))) (aNil))))))))
      (sRet (eC (.bl false))) (sNx)
def ml_14 : M Fl := sPar 11 12 (aCons (eC (.int 1)) (aCons (eCallB 2 1 f__law_take (aCons (eC (.int 9)) (aNil))) (aNil)))
def ml_15 : M Fl := sFor (iN rg1 (aCons (eV 12) (aNil))) (gNm 13)
      (sAsg 11 (e2 fMul (eV 11) (eV 2)))
def ml_16 : M Fl := sAsg 14 (eC (.int 1))
def ml_17 : M Fl := sFor (iN rg1 (aCons (eV 12) (aNil))) (gNm 13)
      (sAsg 14 (e2 fMul (eV 14) (e2 fAdd (eV 13) (eC (.int 1)))))
def ml_18 : M Fl := sIf (MM.tOr (MM.tNot (tV (eCall 2 (f__law_same 11) (aCons (eCall 2 f_power (aCons (eV 2) (aCons (eV 12) (aNil)))) (aCons (eV 11) (aNil)))))) (MM.tOr (MM.tNot (tV (eCall 2 (f__law_same 11) (aCons (eCall 1 f_factorial (aCons (eV 12) (aNil))) (aCons (eV 14) (aNil)))))) (MM.tNot (tV (eCall 2 (f__law_same 11) (aCons (eCall 1 f_sign_of (aCons (eV 2) (aNil))) (aCons (e2 fSub (eN fInt1 (aCons (e2 (cmp cGt) (eV 2) (eC (.int 0))) (aNil))) (eN fInt1 (aCons (e2 (cmp cLt) (eV 2) (eC (.int 0))) (aNil)))) (aNil))))))))
      (sRet (eC (.bl false))) (sNx)
def ml_19 : M Fl := sPar 15 16 (aCons (eCallB 2 1 f__law_take (aCons (eC (.int 7)) (aNil))) (aCons (eCallB 2 1 f__law_take (aCons (eC (.int 7)) (aNil))) (aNil)))
def ml_20 : M Fl := sAsg 17 (eCall 2 f_choices_of (aCons (eV 15) (aCons (eV 16) (aNil))))
def ml_21 : M Fl := sIf (MM.tOr (MM.tNot (tV (eN fIsi (aCons (eV 17) (aCons (eC (.ty .list)) (aNil)))))) (MM.tOr (MM.tNot (tV (eCall 2 (f__law_same 11) (aCons (eN fTupOf (aCons (eV 17) (aNil))) (aCons (eCall 2 f__law_choices (aCons (eV 15) (aCons (eV 16) (aNil)))) (aNil)))))) (MM.tOr (MM.tNot (tV (eCall 2 (f__law_same 11) (aCons (eCall 2 f_choose (aCons (eV 15) (aCons (eV 16) (aNil)))) (aCons (eN fLen (aCons (eV 17) (aNil))) (aNil)))))) (MM.tNot (tV (eCall 2 (f__law_same 11) (aCons (eCall 2 f_choose (aCons (eV 15) (aCons (e1 fNeg (eC (.int 1))) (aNil)))) (aCons (eC (.int 0)) (aNil)))))))))
      (sRet (eC (.bl false))) (sNx)
def ml_22 : M Fl := sAsg 18 (eN fTupOf (aCons (eLc (iN rg1 (aCons (eCallB 2 1 f__law_take (aCons (eC (.int 5)) (aNil))) (aNil))) (gNm 13) (tTrue) (eCallB 2 1 f__law_take (aCons (eC (.int 9)) (aNil))) [13]) (aNil)))
def ml_23 : M Fl := sAsg 19 (eCall 1 f__law_orders (aCons (eV 18) (aNil)))
def ml_24 : M Fl := sIf (MM.tOr (MM.tNot (tV (eN fIsi (aCons (eCall 1 f_orders_of (aCons (eV 18) (aNil))) (aCons (eC (.ty .list)) (aNil)))))) (MM.tNot (tV (eCall 2 (f__law_same 11) (aCons (eN fTupOf (aCons (eCall 1 f_orders_of (aCons (eV 18) (aNil))) (aNil))) (aCons (eLc (iV itS (eV 19)) (gNm 20) (tTrue) (eN fTupOf (aCons (eLc (iV itS (eV 20)) (gNm 32) (tTrue) (e2 fIx (eV 18) (eV 32)) [32]) (aNil))) [20]) (aNil)))))))
      (sRet (eC (.bl false))) (sNx)
def ml_25 : M Fl := sFor (iV itS (eV 19)) (gNm 20)
      (sSeq (sAsg 21 (eN fSum (aCons (eLc (iN rg1 (aCons (eN fLen (aCons (eV 20) (aNil))) (aNil))) (gNm 30) (tTrue) (eN fLen (aCons (eLc (iN rg1 (aCons (eV 30) (aNil))) (gNm 31) (t2 cGt (e2 fIx (eV 20) (eV 31)) (e2 fIx (eV 20) (eV 30))) (eV 31) [31]) (aNil))) [30]) (aNil))))
      (sIf (MM.tNot (tV (eCall 2 (f__law_same 11) (aCons (eCall 1 f_order_sign (aCons (eV 20) (aNil))) (aCons (eIf (t2 cEq (e2 fMod (eV 21) (eC (.int 2))) (eC (.int 0))) (eC (.int 1)) (e1 fNeg (eC (.int 1)))) (aNil))))))
      (sRet (eC (.bl false))) (sNx)))
def ml_26 : M Fl := sAsg 15 (eCallB 2 1 f__law_take (aCons (eC (.int 10)) (aNil)))
def ml_27 : M Fl := sAsg 22 (eCall 1 f__law_partitions (aCons (eV 15) (aNil)))
def ml_28 : M Fl := sIf (MM.tOr (MM.tNot (tV (eN fIsi (aCons (eCall 1 f_partitions_of (aCons (eV 15) (aNil))) (aCons (eC (.ty .list)) (aNil)))))) (MM.tNot (tV (eCall 2 (f__law_same 11) (aCons (eN fTupOf (aCons (eCall 1 f_partitions_of (aCons (eV 15) (aNil))) (aNil))) (aCons (eV 22) (aNil)))))))
      (sRet (eC (.bl false))) (sNx)
def ml_29 : M Fl := sAsgG (gTp 2 (gsCons (gNm 23) (gsCons (gNm 24) (gsNil)))) (eN fTup (aCons (e2 fIx (eV 22) (eCallB 2 1 f__law_take (aCons (eN fLen (aCons (eV 22) (aNil))) (aNil)))) (aCons (e2 fIx (eV 22) (eCallB 2 1 f__law_take (aCons (eN fLen (aCons (eV 22) (aNil))) (aNil)))) (aNil))))
def ml_30 : M Fl := sIf (MM.tNot (tV (eCall 2 (f__law_same 11) (aCons (eCall 1 f_flipped (aCons (eV 23) (aNil))) (aCons (eLc (iN rg1 (aCons (eIf (t2 cGt (eN fLen (aCons (eV 23) (aNil))) (eC (.int 0))) (e2 fIx (eV 23) (eC (.int 0))) (eC (.int 0))) (aNil))) (gNm 12) (tTrue) (eN fLen (aCons (eLc (iV itS (eV 23)) (gNm 8) (t2 cGt (eV 8) (eV 12)) (eV 8) [8]) (aNil))) [12]) (aNil))))))
      (sRet (eC (.bl false))) (sNx)
def ml_31 : M Fl := sIf (MM.tNot (tV (eCall 2 (f__law_same 11) (aCons (eCall 2 f_is_over (aCons (eV 23) (aCons (eV 24) (aNil)))) (aCons (eN fAll (aCons (eLc (iN rg2 (aCons (eC (.int 1)) (aCons (eC (.int 11)) (aNil)))) (gNm 12) (tTrue) (e2 (cmp cGe) (eN fSum (aCons (eSl (eV 23) none (some (eV 12))) (aNil))) (eN fSum (aCons (eSl (eV 24) none (some (eV 12))) (aNil)))) [12]) (aNil))) (aNil))))))
      (sRet (eC (.bl false))) (sNx)
def ml_32 : M Fl := sFor (iV itS (eN fLst (aCons (eV 2) (aCons (eC (.bl true)) (aCons (eC (.bl false)) (aCons (eC .non) (aCons (eC (.str "1")) (aCons (eN fTup (aCons (eC (.int 1)) (aNil))) (aCons (eN fLst (aCons (eC (.int 1)) (aNil))) (aCons (eN fTup (aNil)) (aCons (eN fTup (aCons (eC (.bl true)) (aNil))) (aCons (eN fTup (aCons (eC (.int 1)) (aCons (eC (.str "2")) (aNil)))) (aCons (eV 23) (aCons (eRevX (eV 23)) (aCons (eN fLstOf (aCons (eV 23) (aNil))) (aCons (eN fTup (aCons (eC (.int 0)) (aNil))) (aCons (eN fTup (aCons (eC (.int 2)) (aCons (eC (.int 2)) (aCons (eC (.int 1)) (aNil))))) (aCons (eN fTup (aCons (eC (.int 1)) (aCons (eC (.int 2)) (aNil)))) (aCons (eN fTup (aCons (eC (.int 3)) (aCons (eC (.int 0)) (aNil)))) (aNil)))))))))))))))))))) (gNm 25)
      (sSeq (sAsg 26 (eAnd (eN fIsi (aCons (eV 25) (aCons (eC (.ty .int)) (aNil)))) (eNot (eN fIsi (aCons (eV 25) (aCons (eC (.ty .bool)) (aNil)))))))
      (sSeq (sAsg 27 (eAnd (eN fIsi (aCons (eV 25) (aCons (eC (.ty .tuple)) (aNil)))) (eN fAll (aCons (eLc (iV itS (eV 25)) (gNm 8) (tTrue) (eAnd (eN fIsi (aCons (eV 8) (aCons (eC (.ty .int)) (aNil)))) (eNot (eN fIsi (aCons (eV 8) (aCons (eC (.ty .bool)) (aNil)))))) [8]) (aNil)))))
      (sSeq (sAsg 21 (eAnd (eV 27) (eAnd (eN fAll (aCons (eLc (iV itS (eV 25)) (gNm 8) (tTrue) (e2 (cmp cGt) (eV 8) (eC (.int 0))) [8]) (aNil))) (eN fAll (aCons (eLc (iN rg1 (aCons (e2 fSub (eN fLen (aCons (eV 25) (aNil))) (eC (.int 1))) (aNil))) (gNm 12) (tTrue) (e2 (cmp cGe) (e2 fIx (eV 25) (eV 12)) (e2 fIx (eV 25) (e2 fAdd (eV 12) (eC (.int 1))))) [12]) (aNil))))))
      (sIf (MM.tOr (MM.tNot (tV (eCall 2 f__law_says (aCons (eCall 1 f_is_integer (aCons (eV 25) (aNil))) (aCons (eV 26) (aNil)))))) (MM.tOr (MM.tNot (tV (eCall 2 f__law_says (aCons (eCall 1 f_is_row (aCons (eV 25) (aNil))) (aCons (eV 27) (aNil)))))) (MM.tNot (tV (eCall 2 f__law_says (aCons (eCall 1 f_is_partition (aCons (eV 25) (aNil))) (aCons (eV 21) (aNil))))))))
      (sRet (eC (.bl false))) (sNx)))))
def ml_33 : M Fl := sRet (eCall 1 (f__law_all_malformed tab1 tab2 tab3 tab4 tab5) (aCons (eLc (iV itS (eN fLst (aCons (e1 fNeg (eC (.int 1))) (aCons (eC (.int 31)) (aCons (eC (.bl true)) (aCons (eC .non) (aCons (eC (.str "3")) (aCons (eN fTup (aCons (eC (.int 3)) (aNil))) (aNil))))))))) (gNm 29) (tTrue) (eN fTup (aCons (eC (.gl 18)) (aCons (eN fTup (aCons (eV 29) (aNil))) (aNil)))) [29]) (aNil)))
def m_law : M Fl := sSeq ml_0 (sSeq ml_1 (sSeq ml_2 (sSeq ml_3 (sSeq ml_4 (sSeq ml_5 (sSeq ml_6 (sSeq ml_7 (sSeq ml_8 (sSeq ml_9 (sSeq ml_10 (sSeq ml_11 (sSeq ml_12 (sSeq ml_13 (sSeq ml_14 (sSeq ml_15 (sSeq ml_16 (sSeq ml_17 (sSeq ml_18 (sSeq ml_19 (sSeq ml_20 (sSeq ml_21 (sSeq ml_22 (sSeq ml_23 (sSeq ml_24 (sSeq ml_25 (sSeq ml_26 (sSeq ml_27 (sSeq ml_28 (sSeq ml_29 (sSeq ml_30 (sSeq ml_31 (sSeq ml_32 (ml_33)))))))))))))))))))))))))))))))))
def f_law : List D → FO := mFn 33 m_law
theorem law_fn (T : Txt K mg) {fd : FuncData} (F : FunD K "law" "law" (defArgs s_law) (defBody s_law) (defScope s_law) [] [] (faOf K 34) fd) : FnOk P w K mg base (L2.CX P w) 15 (faOf K 34) fd ["script"] (fspec (CC K) 1 f_law) :=
  fn_ok F sc_law (fun cdv A outer s H E B hr => (ms_cons (ms_set (i := 1) sc_law.nd rfl (by first | exact Or.inl rfl | exact Or.inr rfl) (me_call (ok__law_state T) (hr.mono (by decide)) (by rfl) T.g__law_state (takes_of rfl rfl rfl rfl) (ma_cons (me_var 0) ma_nil)))
      (ms_cons (ms_asg (me_tup (ma_cons (me_op op_subX p_sub (me_callO 1 (ok__law_take T) (hr.mono (by decide)) (by rfl) T.g__law_take (takes_of rfl rfl rfl rfl) (ma_cons me_int ma_nil)) me_int) (ma_cons (me_op op_subX p_sub (me_callO 1 (ok__law_take T) (hr.mono (by decide)) (by rfl) T.g__law_take (takes_of rfl rfl rfl rfl) (ma_cons me_int ma_nil)) me_int) ma_nil))) (mg_tup rfl rfl (mgs_cons (mg_name (i := 2) sc_law.nd rfl (by first | exact Or.inl rfl | exact Or.inr rfl)) (mgs_cons (mg_name (i := 3) sc_law.nd rfl (by first | exact Or.inl rfl | exact Or.inr rfl)) mgs_nil))))
      (ms_cons (ms_set (i := 4) sc_law.nd rfl (by first | exact Or.inl rfl | exact Or.inr rfl) (me_op op_addX (p_add rfl) me_int (me_callO 1 (ok__law_take T) (hr.mono (by decide)) (by rfl) T.g__law_take (takes_of rfl rfl rfl rfl) (ma_cons me_int ma_nil))))
      (ms_cons (ms_setLc (i := 5) [("d", 28)] rfl sc_law.nd rfl rfl (sw_true rfl rfl rfl (by decide +kernel)) (mi_seq rfl (me_call (ok__law_divisors T) (hr.mono (by decide)) (by rfl) T.g__law_divisors (takes_of rfl rfl rfl rfl) (ma_cons (me_callB (cr_max3 rfl) n_max3 (by rfl) T.z_max (by decide +kernel) (ma_cons (me_callB call_abs n_abs (by rfl) T.z_abs (by decide +kernel) (ma_cons (me_var 2) ma_nil)) (ma_cons (me_callB call_abs n_abs (by rfl) T.z_abs (by decide +kernel) (ma_cons (me_var 3) ma_nil)) (ma_cons me_int ma_nil)))) ma_nil))) (blkOk_by (N := ((["script", "state", "a", "b", "n", "both", "row", "g", "c", "small", "most", "total", "k", "t", "product", "m", "size", "listed", "items", "orders", "own", "falls", "shapes", "one", "two", "value", "whole", "plain", "d", "bad"] : List Str) ++ (["i", "j", "x"] : List Str))) (sc := defScope s_law) (own := [("d", 28)]) (by decide +kernel)) (fun _ _ _ _ _ _ => (mg_name (i := 28) sc_law.nd rfl (by first | exact Or.inl rfl | exact Or.inr rfl))) (fun _ _ _ _ _ _ => (mts_one (PW.pt (mw_and (mt_cmp (op_eqD hr.units) (p_eq rfl) (me_op op_modN p_mod (me_callTy call_int1 n_int1 (by rfl) T.z_int (by decide +kernel) (ma_cons (me_var 2) ma_nil)) (me_var 28)) me_int (nomark _)) (mw_1 (mt_cmp (op_eqD hr.units) (p_eq rfl) (me_op op_modN p_mod (me_callTy call_int1 n_int1 (by rfl) T.z_int (by decide +kernel) (ma_cons (me_var 3) ma_nil)) (me_var 28)) me_int (nomark _))))))) (fun _ _ _ _ _ _ => (me_var 28)))
      (ms_cons (ms_if (PW.pt (mw_or (mt_not (mt_v rfl (me_call (ok__law_same T 11) (hr.mono (by decide)) (by rfl) T.g__law_same (takes_of rfl rfl rfl rfl) (ma_cons (me_call (ok_common T) (hr.mono (by decide)) (by rfl) T.g_common (takes_of rfl rfl rfl rfl) (ma_cons (me_var 2) (ma_cons (me_var 3) ma_nil))) (ma_cons (me_if (PW.pt (mw_and (mt_cmp (op_eqD hr.units) (p_eq rfl) (me_var 2) me_int (nomark _)) (mw_1 (mt_cmp (op_eqD hr.units) (p_eq rfl) (me_var 3) me_int (nomark _))))) me_int (me_callB (cr_max rfl) (n_maxL rfl) (by rfl) T.z_max (by decide +kernel) (ma_cons (me_var 5) ma_nil))) ma_nil))))) (mw_o1 (mt_not (mt_v rfl (me_call (ok__law_same T 11) (hr.mono (by decide)) (by rfl) T.g__law_same (takes_of rfl rfl rfl rfl) (ma_cons (me_call (ok_common T) (hr.mono (by decide)) (by rfl) T.g_common (takes_of rfl rfl rfl rfl) (ma_cons me_int (ma_cons (me_var 3) ma_nil))) (ma_cons (me_callB call_abs n_abs (by rfl) T.z_abs (by decide +kernel) (ma_cons (me_var 3) ma_nil)) ma_nil)))))))) (ms_one (ms_ret me_bl)) ms_nil)
      (ms_cons (ms_set (i := 6) sc_law.nd rfl (by first | exact Or.inl rfl | exact Or.inr rfl) (me_callTy call_tuple_of (n_tupOf rfl) (by rfl) T.z_tuple (by decide +kernel) (ma_cons (me_lc [("k", 12)] rfl sc_law.nd (mi_range1 (by rfl) T.z_range (ma_cons (me_callO 1 (ok__law_take T) (hr.mono (by decide)) (by rfl) T.g__law_take (takes_of rfl rfl rfl rfl) (ma_cons me_int ma_nil)) ma_nil)) (blkOk_by (N := ((["script", "state", "a", "b", "n", "both", "row", "g", "c", "small", "most", "total", "k", "t", "product", "m", "size", "listed", "items", "orders", "own", "falls", "shapes", "one", "two", "value", "whole", "plain", "d", "bad"] : List Str) ++ (["i", "j", "x"] : List Str))) (sc := defScope s_law) (own := [("k", 12)]) (by decide +kernel)) (fun _ _ _ _ _ _ => (mg_name (i := 12) sc_law.nd rfl (by first | exact Or.inl rfl | exact Or.inr rfl))) (fun _ _ _ _ _ _ => mts_nil) (fun _ _ _ _ _ _ => (me_op op_subX p_sub (me_callO 1 (ok__law_take T) (hr.mono (by decide)) (by rfl) T.g__law_take takes0 (ma_cons me_int ma_nil)) me_int))) ma_nil)))
      (ms_cons (ms_set (i := 7) sc_law.nd rfl (by first | exact Or.inl rfl | exact Or.inr rfl) me_int)
      (ms_cons (ms_for (passes_of rfl) rfl (mi_seq rfl (me_var 6)) (mg_name (i := 8) sc_law.nd rfl (by first | exact Or.inl rfl | exact Or.inr rfl)) (ms_one (ms_set (i := 7) sc_law.nd rfl (by first | exact Or.inl rfl | exact Or.inr rfl) (me_if (PW.pt (mw_or (mt_cmp (op_neD hr.units) (p_ne rfl) (me_var 8) me_int (nomark _)) (mw_o1 (mt_cmp (op_neD hr.units) (p_ne rfl) (me_var 7) me_int (nomark _))))) (me_callB (cr_max rfl) (n_maxL rfl) (by rfl) T.z_max (by decide +kernel) (ma_cons (me_op op_addX (p_add rfl) (me_lc [("d", 28)] rfl sc_law.nd (mi_range2 (by rfl) T.z_range (ma_cons me_int (ma_cons me_int ma_nil))) (blkOk_by (N := ((["script", "state", "a", "b", "n", "both", "row", "g", "c", "small", "most", "total", "k", "t", "product", "m", "size", "listed", "items", "orders", "own", "falls", "shapes", "one", "two", "value", "whole", "plain", "d", "bad"] : List Str) ++ (["i", "j", "x"] : List Str))) (sc := defScope s_law) (own := [("d", 28)]) (by decide +kernel)) (fun _ _ _ _ _ _ => (mg_name (i := 28) sc_law.nd rfl (by first | exact Or.inl rfl | exact Or.inr rfl))) (fun _ _ _ _ _ _ => (mts_one (PW.pt (mw_and (mt_cmp (op_eqD hr.units) (p_eq rfl) (me_op op_modN p_mod (me_callTy call_int1 n_int1 (by rfl) T.z_int (by decide +kernel) (ma_cons (me_var 8) ma_nil)) (me_var 28)) me_int (nomark _)) (mw_1 (PW.pt (mw_or (mt_cmp (op_eqD hr.units) (p_eq rfl) (me_var 7) me_int (nomark _)) (mw_o1 (mt_cmp (op_eqD hr.units) (p_eq rfl) (me_op op_modN p_mod (me_callTy call_int1 n_int1 (by rfl) T.z_int (by decide +kernel) (ma_cons (me_var 7) ma_nil)) (me_var 28)) me_int (nomark _)))))))))) (fun _ _ _ _ _ _ => (me_var 28))) (me_lst (ma_cons me_int ma_nil))) ma_nil)) me_int))))
      (ms_cons (ms_if (mt_not (mt_v rfl (me_call (ok__law_same T 11) (hr.mono (by decide)) (by rfl) T.g__law_same (takes_of rfl rfl rfl rfl) (ma_cons (me_call (ok_common_of T) (hr.mono (by decide)) (by rfl) T.g_common_of (takes_of rfl rfl rfl rfl) (ma_cons (me_var 6) ma_nil)) (ma_cons (me_var 7) ma_nil))))) (ms_one (ms_ret me_bl)) ms_nil)
      (ms_cons (ms_set (i := 9) sc_law.nd rfl (by first | exact Or.inl rfl | exact Or.inr rfl) (me_callTy call_tuple_of (n_tupOf rfl) (by rfl) T.z_tuple (by decide +kernel) (ma_cons (me_lc [("k", 12)] rfl sc_law.nd (mi_range1 (by rfl) T.z_range (ma_cons (me_callO 1 (ok__law_take T) (hr.mono (by decide)) (by rfl) T.g__law_take (takes_of rfl rfl rfl rfl) (ma_cons me_int ma_nil)) ma_nil)) (blkOk_by (N := ((["script", "state", "a", "b", "n", "both", "row", "g", "c", "small", "most", "total", "k", "t", "product", "m", "size", "listed", "items", "orders", "own", "falls", "shapes", "one", "two", "value", "whole", "plain", "d", "bad"] : List Str) ++ (["i", "j", "x"] : List Str))) (sc := defScope s_law) (own := [("k", 12)]) (by decide +kernel)) (fun _ _ _ _ _ _ => (mg_name (i := 12) sc_law.nd rfl (by first | exact Or.inl rfl | exact Or.inr rfl))) (fun _ _ _ _ _ _ => mts_nil) (fun _ _ _ _ _ _ => (me_op op_addX (p_add rfl) me_int (me_callO 1 (ok__law_take T) (hr.mono (by decide)) (by rfl) T.g__law_take takes0 (ma_cons me_int ma_nil))))) ma_nil)))
      (ms_cons (ms_set (i := 10) sc_law.nd rfl (by first | exact Or.inl rfl | exact Or.inr rfl) me_int)
      (ms_cons (ms_for (passes_of rfl) rfl (mi_seq rfl (me_var 9)) (mg_name (i := 8) sc_law.nd rfl (by first | exact Or.inl rfl | exact Or.inr rfl)) (ms_one (ms_set (i := 10) sc_law.nd rfl (by first | exact Or.inl rfl | exact Or.inr rfl) (me_op op_mulA (p_mulA rfl) (me_var 10) (me_var 8)))))
      (ms_cons (ms_if (mt_not (mt_v rfl (me_call (ok__law_same T 11) (hr.mono (by decide)) (by rfl) T.g__law_same (takes_of rfl rfl rfl rfl) (ma_cons (me_call (ok_least_multiple T) (hr.mono (by decide)) (by rfl) T.g_least_multiple (takes_of rfl rfl rfl rfl) (ma_cons (me_var 9) ma_nil)) (ma_cons (me_ix ix_seq (p_ix rfl) (me_lc [("m", 15)] rfl sc_law.nd (mi_range2 (by rfl) T.z_range (ma_cons me_int (ma_cons (me_op op_addX (p_add rfl) (me_var 10) me_int) ma_nil))) (blkOk_by (N := ((["script", "state", "a", "b", "n", "both", "row", "g", "c", "small", "most", "total", "k", "t", "product", "m", "size", "listed", "items", "orders", "own", "falls", "shapes", "one", "two", "value", "whole", "plain", "d", "bad"] : List Str) ++ (["i", "j", "x"] : List Str))) (sc := defScope s_law) (own := [("m", 15)]) (by decide +kernel)) (fun _ _ _ _ _ _ => (mg_name (i := 15) sc_law.nd rfl (by first | exact Or.inl rfl | exact Or.inr rfl))) (fun _ _ _ _ _ _ => (mts_one (mt_v rfl (me_callB (cr_all rfl) (n_all rfl) (by rfl) T.z_all (by decide +kernel) (ma_cons (me_lc [("c", 8)] rfl sc_law.nd (mi_seq rfl (me_var 9)) (blkOk_1 (N := ((["script", "state", "a", "b", "n", "both", "row", "g", "c", "small", "most", "total", "k", "t", "product", "m", "size", "listed", "items", "orders", "own", "falls", "shapes", "one", "two", "value", "whole", "plain", "d", "bad"] : List Str) ++ (["i", "j", "x"] : List Str))) (sc0 := defScope s_law) (own := [("c", 8)]) rfl (by decide +kernel)) (fun _ _ _ _ _ _ => (mg_name (i := 8) sc_law.nd rfl (by first | exact Or.inl rfl | exact Or.inr rfl))) (fun _ _ _ _ _ _ => mts_nil) (fun _ _ _ _ _ _ => (me_cmp (op_eqD hr.units) (p_eq rfl) (me_op op_modN p_mod (me_callTy call_int1 n_int1 (by rfl) T.z_int (by decide +kernel) (ma_cons (me_var 15) ma_nil)) (me_var 8)) me_int (nomark _)))) ma_nil))))) (fun _ _ _ _ _ _ => (me_var 15))) me_int (fun _ _ => rfl)) ma_nil))))) (ms_one (ms_ret me_bl)) ms_nil)
      (ms_cons (ms_if (PW.pt (mw_or (mt_not (mt_v rfl (me_call (ok__law_same T 11) (hr.mono (by decide)) (by rfl) T.g__law_same (takes_of rfl rfl rfl rfl) (ma_cons (me_callTy call_tuple_of (n_tupOf rfl) (by rfl) T.z_tuple (by decide +kernel) (ma_cons (me_call (ok_divisors T) (hr.mono (by decide)) (by rfl) T.g_divisors (takes_of rfl rfl rfl rfl) (ma_cons (me_var 4) ma_nil)) ma_nil)) (ma_cons (me_call (ok__law_divisors T) (hr.mono (by decide)) (by rfl) T.g__law_divisors (takes_of rfl rfl rfl rfl) (ma_cons (me_var 4) ma_nil)) ma_nil))))) (mw_or (mt_not (mt_v rfl (me_callB call_isi (n_isi rfl) (by rfl) T.z_isinstance (by decide +kernel) (ma_cons (me_call (ok_divisors T) (hr.mono (by decide)) (by rfl) T.g_divisors (takes_of rfl rfl rfl rfl) (ma_cons (me_var 4) ma_nil)) (ma_cons (me_ty .list (by rfl) T.z_list (by decide +kernel)) ma_nil))))) (mw_o1 (mt_not (mt_v rfl (me_call (ok__law_same T 11) (hr.mono (by decide)) (by rfl) T.g__law_same (takes_of rfl rfl rfl rfl) (ma_cons (me_call (ok_mobius T) (hr.mono (by decide)) (by rfl) T.g_mobius (takes_of rfl rfl rfl rfl) (ma_cons (me_var 4) ma_nil)) (ma_cons (me_call (ok__law_mobius T) (hr.mono (by decide)) (by rfl) T.g__law_mobius (takes_of rfl rfl rfl rfl) (ma_cons (me_var 4) ma_nil)) ma_nil))))))))) (ms_one (ms_ret me_bl)) ms_nil)
      (ms_cons (ms_par (i := 11) (j := 12) rfl sc_law.nd rfl rfl (by decide) rfl rfl (ma_cons me_int (ma_cons (me_callO 1 (ok__law_take T) (hr.mono (by decide)) (by rfl) T.g__law_take (takes_of rfl rfl rfl rfl) (ma_cons me_int ma_nil)) ma_nil)) (by rfl))
      (ms_cons (ms_for (passes_of rfl) rfl (mi_range1 (by rfl) T.z_range (ma_cons (me_var 12) ma_nil)) (mg_name (i := 13) sc_law.nd rfl (by first | exact Or.inl rfl | exact Or.inr rfl)) (ms_one (ms_set (i := 11) sc_law.nd rfl (by first | exact Or.inl rfl | exact Or.inr rfl) (me_op op_mulA (p_mulA rfl) (me_var 11) (me_var 2)))))
      (ms_cons (ms_set (i := 14) sc_law.nd rfl (by first | exact Or.inl rfl | exact Or.inr rfl) me_int)
      (ms_cons (ms_for (passes_of rfl) rfl (mi_range1 (by rfl) T.z_range (ma_cons (me_var 12) ma_nil)) (mg_name (i := 13) sc_law.nd rfl (by first | exact Or.inl rfl | exact Or.inr rfl)) (ms_one (ms_set (i := 14) sc_law.nd rfl (by first | exact Or.inl rfl | exact Or.inr rfl) (me_op op_mulA (p_mulA rfl) (me_var 14) (me_op op_addX (p_add rfl) (me_var 13) me_int)))))
      (ms_cons (ms_if (PW.pt (mw_or (mt_not (mt_v rfl (me_call (ok__law_same T 11) (hr.mono (by decide)) (by rfl) T.g__law_same (takes_of rfl rfl rfl rfl) (ma_cons (me_call (ok_power T) (hr.mono (by decide)) (by rfl) T.g_power (takes_of rfl rfl rfl rfl) (ma_cons (me_var 2) (ma_cons (me_var 12) ma_nil))) (ma_cons (me_var 11) ma_nil))))) (mw_or (mt_not (mt_v rfl (me_call (ok__law_same T 11) (hr.mono (by decide)) (by rfl) T.g__law_same (takes_of rfl rfl rfl rfl) (ma_cons (me_call (ok_factorial T) (hr.mono (by decide)) (by rfl) T.g_factorial (takes_of rfl rfl rfl rfl) (ma_cons (me_var 12) ma_nil)) (ma_cons (me_var 14) ma_nil))))) (mw_o1 (mt_not (mt_v rfl (me_call (ok__law_same T 11) (hr.mono (by decide)) (by rfl) T.g__law_same (takes_of rfl rfl rfl rfl) (ma_cons (me_call (ok_sign_of T) (hr.mono (by decide)) (by rfl) T.g_sign_of (takes_of rfl rfl rfl rfl) (ma_cons (me_var 2) ma_nil)) (ma_cons (me_op op_subX p_sub (me_callTy call_int1 n_int1 (by rfl) T.z_int (by decide +kernel) (ma_cons (me_cmp op_gt p_gt (me_var 2) me_int (nomark _)) ma_nil)) (me_callTy call_int1 n_int1 (by rfl) T.z_int (by decide +kernel) (ma_cons (me_cmp op_lt p_lt (me_var 2) me_int (nomark _)) ma_nil))) ma_nil))))))))) (ms_one (ms_ret me_bl)) ms_nil)
      (ms_cons (ms_par (i := 15) (j := 16) rfl sc_law.nd rfl rfl (by decide) rfl rfl (ma_cons (me_callO 1 (ok__law_take T) (hr.mono (by decide)) (by rfl) T.g__law_take (takes_of rfl rfl rfl rfl) (ma_cons me_int ma_nil)) (ma_cons (me_callO 1 (ok__law_take T) (hr.mono (by decide)) (by rfl) T.g__law_take (takes_of rfl rfl rfl rfl) (ma_cons me_int ma_nil)) ma_nil)) (by rfl))
      (ms_cons (ms_set (i := 17) sc_law.nd rfl (by first | exact Or.inl rfl | exact Or.inr rfl) (me_call (ok_choices_of T) (hr.mono (by decide)) (by rfl) T.g_choices_of (takes_of rfl rfl rfl rfl) (ma_cons (me_var 15) (ma_cons (me_var 16) ma_nil))))
      (ms_cons (ms_if (PW.pt (mw_or (mt_not (mt_v rfl (me_callB call_isi (n_isi rfl) (by rfl) T.z_isinstance (by decide +kernel) (ma_cons (me_var 17) (ma_cons (me_ty .list (by rfl) T.z_list (by decide +kernel)) ma_nil))))) (mw_or (mt_not (mt_v rfl (me_call (ok__law_same T 11) (hr.mono (by decide)) (by rfl) T.g__law_same (takes_of rfl rfl rfl rfl) (ma_cons (me_callTy call_tuple_of (n_tupOf rfl) (by rfl) T.z_tuple (by decide +kernel) (ma_cons (me_var 17) ma_nil)) (ma_cons (me_call (ok__law_choices T) (hr.mono (by decide)) (by rfl) T.g__law_choices (takes_of rfl rfl rfl rfl) (ma_cons (me_var 15) (ma_cons (me_var 16) ma_nil))) ma_nil))))) (mw_or (mt_not (mt_v rfl (me_call (ok__law_same T 11) (hr.mono (by decide)) (by rfl) T.g__law_same (takes_of rfl rfl rfl rfl) (ma_cons (me_call (ok_choose T) (hr.mono (by decide)) (by rfl) T.g_choose (takes_of rfl rfl rfl rfl) (ma_cons (me_var 15) (ma_cons (me_var 16) ma_nil))) (ma_cons (me_callB cr_lenX (n_len rfl) (by rfl) T.z_len (by decide +kernel) (ma_cons (me_var 17) ma_nil)) ma_nil))))) (mw_o1 (mt_not (mt_v rfl (me_call (ok__law_same T 11) (hr.mono (by decide)) (by rfl) T.g__law_same (takes_of rfl rfl rfl rfl) (ma_cons (me_call (ok_choose T) (hr.mono (by decide)) (by rfl) T.g_choose (takes_of rfl rfl rfl rfl) (ma_cons (me_var 15) (ma_cons (me_e1 un_neg p_neg me_int) ma_nil))) (ma_cons me_int ma_nil)))))))))) (ms_one (ms_ret me_bl)) ms_nil)
      (ms_cons (ms_set (i := 18) sc_law.nd rfl (by first | exact Or.inl rfl | exact Or.inr rfl) (me_callTy call_tuple_of (n_tupOf rfl) (by rfl) T.z_tuple (by decide +kernel) (ma_cons (me_lc [("t", 13)] rfl sc_law.nd (mi_range1 (by rfl) T.z_range (ma_cons (me_callO 1 (ok__law_take T) (hr.mono (by decide)) (by rfl) T.g__law_take (takes_of rfl rfl rfl rfl) (ma_cons me_int ma_nil)) ma_nil)) (blkOk_by (N := ((["script", "state", "a", "b", "n", "both", "row", "g", "c", "small", "most", "total", "k", "t", "product", "m", "size", "listed", "items", "orders", "own", "falls", "shapes", "one", "two", "value", "whole", "plain", "d", "bad"] : List Str) ++ (["i", "j", "x"] : List Str))) (sc := defScope s_law) (own := [("t", 13)]) (by decide +kernel)) (fun _ _ _ _ _ _ => (mg_name (i := 13) sc_law.nd rfl (by first | exact Or.inl rfl | exact Or.inr rfl))) (fun _ _ _ _ _ _ => mts_nil) (fun _ _ _ _ _ _ => (me_callO 1 (ok__law_take T) (hr.mono (by decide)) (by rfl) T.g__law_take takes0 (ma_cons me_int ma_nil)))) ma_nil)))
      (ms_cons (ms_set (i := 19) sc_law.nd rfl (by first | exact Or.inl rfl | exact Or.inr rfl) (me_call (ok__law_orders T) (hr.mono (by decide)) (by rfl) T.g__law_orders (takes_of rfl rfl rfl rfl) (ma_cons (me_var 18) ma_nil)))
      (ms_cons (ms_if (PW.pt (mw_or (mt_not (mt_v rfl (me_callB call_isi (n_isi rfl) (by rfl) T.z_isinstance (by decide +kernel) (ma_cons (me_call (ok_orders_of T) (hr.mono (by decide)) (by rfl) T.g_orders_of (takes_of rfl rfl rfl rfl) (ma_cons (me_var 18) ma_nil)) (ma_cons (me_ty .list (by rfl) T.z_list (by decide +kernel)) ma_nil))))) (mw_o1 (mt_not (mt_v rfl (me_call (ok__law_same T 11) (hr.mono (by decide)) (by rfl) T.g__law_same (takes_of rfl rfl rfl rfl) (ma_cons (me_callTy call_tuple_of (n_tupOf rfl) (by rfl) T.z_tuple (by decide +kernel) (ma_cons (me_call (ok_orders_of T) (hr.mono (by decide)) (by rfl) T.g_orders_of (takes_of rfl rfl rfl rfl) (ma_cons (me_var 18) ma_nil)) ma_nil)) (ma_cons (me_lc [("own", 20)] rfl sc_law.nd (mi_seq rfl (me_var 19)) (blkOk_by (N := ((["script", "state", "a", "b", "n", "both", "row", "g", "c", "small", "most", "total", "k", "t", "product", "m", "size", "listed", "items", "orders", "own", "falls", "shapes", "one", "two", "value", "whole", "plain", "d", "bad"] : List Str) ++ (["i", "j", "x"] : List Str))) (sc := defScope s_law) (own := [("own", 20)]) (by decide +kernel)) (fun _ _ _ _ _ _ => (mg_name (i := 20) sc_law.nd rfl (by first | exact Or.inl rfl | exact Or.inr rfl))) (fun _ _ _ _ _ _ => mts_nil) (fun _ _ _ _ _ _ => (me_callTy call_tuple_of (n_tupOf rfl) (by rfl) T.z_tuple (by decide +kernel) (ma_cons (me_lc [("x", 32)] rfl sc_law.nd (mi_seq rfl (me_var 20)) (blkOk_1 (N := ((["script", "state", "a", "b", "n", "both", "row", "g", "c", "small", "most", "total", "k", "t", "product", "m", "size", "listed", "items", "orders", "own", "falls", "shapes", "one", "two", "value", "whole", "plain", "d", "bad"] : List Str) ++ (["i", "j", "x"] : List Str))) (sc0 := defScope s_law) (own := [("x", 32)]) rfl (by decide +kernel)) (fun _ _ _ _ _ _ => (mg_name (i := 32) sc_law.nd rfl (by first | exact Or.inl rfl | exact Or.inr rfl))) (fun _ _ _ _ _ _ => mts_nil) (fun _ _ _ _ _ _ => (me_ix ix_seq (p_ix rfl) (me_var 18) (me_var 32) (fun _ _ => rfl)))) ma_nil)))) ma_nil)))))))) (ms_one (ms_ret me_bl)) ms_nil)
      (ms_cons (ms_for (passes_of rfl) rfl (mi_seq rfl (me_var 19)) (mg_name (i := 20) sc_law.nd rfl (by first | exact Or.inl rfl | exact Or.inr rfl)) (ms_cons (ms_set (i := 21) sc_law.nd rfl (by first | exact Or.inl rfl | exact Or.inr rfl) (me_callB (cr_sumX rfl) (n_sum rfl) (by rfl) T.z_sum (by decide +kernel) (ma_cons (me_lc [("i", 30)] rfl sc_law.nd (mi_range1 (by rfl) T.z_range (ma_cons (me_callB cr_lenX (n_len rfl) (by rfl) T.z_len (by decide +kernel) (ma_cons (me_var 20) ma_nil)) ma_nil)) (blkOk_by (N := ((["script", "state", "a", "b", "n", "both", "row", "g", "c", "small", "most", "total", "k", "t", "product", "m", "size", "listed", "items", "orders", "own", "falls", "shapes", "one", "two", "value", "whole", "plain", "d", "bad"] : List Str) ++ (["i", "j", "x"] : List Str))) (sc := defScope s_law) (own := [("i", 30)]) (by decide +kernel)) (fun _ _ _ _ _ _ => (mg_name (i := 30) sc_law.nd rfl (by first | exact Or.inl rfl | exact Or.inr rfl))) (fun _ _ _ _ _ _ => mts_nil) (fun _ _ _ _ _ _ => (me_callB cr_lenX (n_len rfl) (by rfl) T.z_len (by decide +kernel) (ma_cons (me_lc [("j", 31)] rfl sc_law.nd (mi_range1 (by rfl) T.z_range (ma_cons (me_var 30) ma_nil)) (blkOk_1 (N := ((["script", "state", "a", "b", "n", "both", "row", "g", "c", "small", "most", "total", "k", "t", "product", "m", "size", "listed", "items", "orders", "own", "falls", "shapes", "one", "two", "value", "whole", "plain", "d", "bad"] : List Str) ++ (["i", "j", "x"] : List Str))) (sc0 := defScope s_law) (own := [("j", 31)]) rfl (by decide +kernel)) (fun _ _ _ _ _ _ => (mg_name (i := 31) sc_law.nd rfl (by first | exact Or.inl rfl | exact Or.inr rfl))) (fun _ _ _ _ _ _ => (mts_one (mt_cmp op_gt p_gt (me_ix ix_seq (p_ix rfl) (me_var 20) (me_var 31) (fun _ _ => rfl)) (me_ix ix_seq (p_ix rfl) (me_var 20) (me_var 30) (fun _ _ => rfl)) (nomark _)))) (fun _ _ _ _ _ _ => (me_var 31))) ma_nil)))) ma_nil)))
      (ms_one (ms_if (mt_not (mt_v rfl (me_call (ok__law_same T 11) (hr.mono (by decide)) (by rfl) T.g__law_same (takes_of rfl rfl rfl rfl) (ma_cons (me_call (ok_order_sign T) (hr.mono (by decide)) (by rfl) T.g_order_sign (takes_of rfl rfl rfl rfl) (ma_cons (me_var 20) ma_nil)) (ma_cons (me_if (mt_cmp (op_eqD hr.units) (p_eq rfl) (me_op op_modN p_mod (me_var 21) me_int) me_int (nomark _)) me_int (me_e1 un_neg p_neg me_int)) ma_nil))))) (ms_one (ms_ret me_bl)) ms_nil))))
      (ms_cons (ms_set (i := 15) sc_law.nd rfl (by first | exact Or.inl rfl | exact Or.inr rfl) (me_callO 1 (ok__law_take T) (hr.mono (by decide)) (by rfl) T.g__law_take (takes_of rfl rfl rfl rfl) (ma_cons me_int ma_nil)))
      (ms_cons (ms_set (i := 22) sc_law.nd rfl (by first | exact Or.inl rfl | exact Or.inr rfl) (me_call (ok__law_partitions T) (hr.mono (by decide)) (by rfl) T.g__law_partitions (takes_of rfl rfl rfl rfl) (ma_cons (me_var 15) ma_nil)))
      (ms_cons (ms_if (PW.pt (mw_or (mt_not (mt_v rfl (me_callB call_isi (n_isi rfl) (by rfl) T.z_isinstance (by decide +kernel) (ma_cons (me_call (ok_partitions_of T) (hr.mono (by decide)) (by rfl) T.g_partitions_of (takes_of rfl rfl rfl rfl) (ma_cons (me_var 15) ma_nil)) (ma_cons (me_ty .list (by rfl) T.z_list (by decide +kernel)) ma_nil))))) (mw_o1 (mt_not (mt_v rfl (me_call (ok__law_same T 11) (hr.mono (by decide)) (by rfl) T.g__law_same (takes_of rfl rfl rfl rfl) (ma_cons (me_callTy call_tuple_of (n_tupOf rfl) (by rfl) T.z_tuple (by decide +kernel) (ma_cons (me_call (ok_partitions_of T) (hr.mono (by decide)) (by rfl) T.g_partitions_of (takes_of rfl rfl rfl rfl) (ma_cons (me_var 15) ma_nil)) ma_nil)) (ma_cons (me_var 22) ma_nil)))))))) (ms_one (ms_ret me_bl)) ms_nil)
      (ms_cons (ms_asg (me_tup (ma_cons (me_ix ix_seq (p_ix rfl) (me_var 22) (me_callO 1 (ok__law_take T) (hr.mono (by decide)) (by rfl) T.g__law_take (takes_of rfl rfl rfl rfl) (ma_cons (me_callB cr_lenX (n_len rfl) (by rfl) T.z_len (by decide +kernel) (ma_cons (me_var 22) ma_nil)) ma_nil)) (fun _ _ => rfl)) (ma_cons (me_ix ix_seq (p_ix rfl) (me_var 22) (me_callO 1 (ok__law_take T) (hr.mono (by decide)) (by rfl) T.g__law_take (takes_of rfl rfl rfl rfl) (ma_cons (me_callB cr_lenX (n_len rfl) (by rfl) T.z_len (by decide +kernel) (ma_cons (me_var 22) ma_nil)) ma_nil)) (fun _ _ => rfl)) ma_nil))) (mg_tup rfl rfl (mgs_cons (mg_name (i := 23) sc_law.nd rfl (by first | exact Or.inl rfl | exact Or.inr rfl)) (mgs_cons (mg_name (i := 24) sc_law.nd rfl (by first | exact Or.inl rfl | exact Or.inr rfl)) mgs_nil))))
      (ms_cons (ms_if (mt_not (mt_v rfl (me_call (ok__law_same T 11) (hr.mono (by decide)) (by rfl) T.g__law_same (takes_of rfl rfl rfl rfl) (ma_cons (me_call (ok_flipped T) (hr.mono (by decide)) (by rfl) T.g_flipped (takes_of rfl rfl rfl rfl) (ma_cons (me_var 23) ma_nil)) (ma_cons (me_lc [("k", 12)] rfl sc_law.nd (mi_range1 (by rfl) T.z_range (ma_cons (me_if (mt_cmp op_gt p_gt (me_callB cr_lenX (n_len rfl) (by rfl) T.z_len (by decide +kernel) (ma_cons (me_var 23) ma_nil)) me_int (nomark _)) (me_ix ix_seq (p_ix rfl) (me_var 23) me_int (fun _ _ => rfl)) me_int) ma_nil)) (blkOk_by (N := ((["script", "state", "a", "b", "n", "both", "row", "g", "c", "small", "most", "total", "k", "t", "product", "m", "size", "listed", "items", "orders", "own", "falls", "shapes", "one", "two", "value", "whole", "plain", "d", "bad"] : List Str) ++ (["i", "j", "x"] : List Str))) (sc := defScope s_law) (own := [("k", 12)]) (by decide +kernel)) (fun _ _ _ _ _ _ => (mg_name (i := 12) sc_law.nd rfl (by first | exact Or.inl rfl | exact Or.inr rfl))) (fun _ _ _ _ _ _ => mts_nil) (fun _ _ _ _ _ _ => (me_callB cr_lenX (n_len rfl) (by rfl) T.z_len (by decide +kernel) (ma_cons (me_lc [("c", 8)] rfl sc_law.nd (mi_seq rfl (me_var 23)) (blkOk_1 (N := ((["script", "state", "a", "b", "n", "both", "row", "g", "c", "small", "most", "total", "k", "t", "product", "m", "size", "listed", "items", "orders", "own", "falls", "shapes", "one", "two", "value", "whole", "plain", "d", "bad"] : List Str) ++ (["i", "j", "x"] : List Str))) (sc0 := defScope s_law) (own := [("c", 8)]) rfl (by decide +kernel)) (fun _ _ _ _ _ _ => (mg_name (i := 8) sc_law.nd rfl (by first | exact Or.inl rfl | exact Or.inr rfl))) (fun _ _ _ _ _ _ => (mts_one (mt_cmp op_gt p_gt (me_var 8) (me_var 12) (nomark _)))) (fun _ _ _ _ _ _ => (me_var 8))) ma_nil)))) ma_nil))))) (ms_one (ms_ret me_bl)) ms_nil)
      (ms_cons (ms_if (mt_not (mt_v rfl (me_call (ok__law_same T 11) (hr.mono (by decide)) (by rfl) T.g__law_same (takes_of rfl rfl rfl rfl) (ma_cons (me_call (ok_is_over T) (hr.mono (by decide)) (by rfl) T.g_is_over (takes_of rfl rfl rfl rfl) (ma_cons (me_var 23) (ma_cons (me_var 24) ma_nil))) (ma_cons (me_callB (cr_all rfl) (n_all rfl) (by rfl) T.z_all (by decide +kernel) (ma_cons (me_lc [("k", 12)] rfl sc_law.nd (mi_range2 (by rfl) T.z_range (ma_cons me_int (ma_cons me_int ma_nil))) (blkOk_by (N := ((["script", "state", "a", "b", "n", "both", "row", "g", "c", "small", "most", "total", "k", "t", "product", "m", "size", "listed", "items", "orders", "own", "falls", "shapes", "one", "two", "value", "whole", "plain", "d", "bad"] : List Str) ++ (["i", "j", "x"] : List Str))) (sc := defScope s_law) (own := [("k", 12)]) (by decide +kernel)) (fun _ _ _ _ _ _ => (mg_name (i := 12) sc_law.nd rfl (by first | exact Or.inl rfl | exact Or.inr rfl))) (fun _ _ _ _ _ _ => mts_nil) (fun _ _ _ _ _ _ => (me_cmp op_ge p_ge (me_callB (cr_sumX rfl) (n_sum rfl) (by rfl) T.z_sum (by decide +kernel) (ma_cons (me_sl rfl (me_var 23) mo_none (mo_some (me_var 12))) ma_nil)) (me_callB (cr_sumX rfl) (n_sum rfl) (by rfl) T.z_sum (by decide +kernel) (ma_cons (me_sl rfl (me_var 24) mo_none (mo_some (me_var 12))) ma_nil)) (nomark _)))) ma_nil)) ma_nil))))) (ms_one (ms_ret me_bl)) ms_nil)
      (ms_cons (ms_for (passes_of rfl) rfl (mi_seq rfl (me_lst (ma_cons (me_var 2) (ma_cons me_bl (ma_cons me_bl (ma_cons me_non (ma_cons me_str (ma_cons (me_tup (ma_cons me_int ma_nil)) (ma_cons (me_lst (ma_cons me_int ma_nil)) (ma_cons (me_tup ma_nil) (ma_cons (me_tup (ma_cons me_bl ma_nil)) (ma_cons (me_tup (ma_cons me_int (ma_cons me_str ma_nil))) (ma_cons (me_var 23) (ma_cons (me_revX rfl (me_var 23)) (ma_cons (me_callTy call_list_of (n_lstOf rfl) (by rfl) T.z_list (by decide +kernel) (ma_cons (me_var 23) ma_nil)) (ma_cons (me_tup (ma_cons me_int ma_nil)) (ma_cons (me_tup (ma_cons me_int (ma_cons me_int (ma_cons me_int ma_nil)))) (ma_cons (me_tup (ma_cons me_int (ma_cons me_int ma_nil))) (ma_cons (me_tup (ma_cons me_int (ma_cons me_int ma_nil))) ma_nil))))))))))))))))))) (mg_name (i := 25) sc_law.nd rfl (by first | exact Or.inl rfl | exact Or.inr rfl)) (ms_cons (ms_set (i := 26) sc_law.nd rfl (by first | exact Or.inl rfl | exact Or.inr rfl) (me_and (me_callB call_isi (n_isi rfl) (by rfl) T.z_isinstance (by decide +kernel) (ma_cons (me_var 25) (ma_cons (me_ty .int (by rfl) T.z_int (by decide +kernel)) ma_nil))) (me_one (me_not (me_callB call_isi (n_isi rfl) (by rfl) T.z_isinstance (by decide +kernel) (ma_cons (me_var 25) (ma_cons (me_ty .bool (by rfl) T.z_bool (by decide +kernel)) ma_nil)))))))
      (ms_cons (ms_set (i := 27) sc_law.nd rfl (by first | exact Or.inl rfl | exact Or.inr rfl) (me_and (me_callB call_isi (n_isi rfl) (by rfl) T.z_isinstance (by decide +kernel) (ma_cons (me_var 25) (ma_cons (me_ty .tuple (by rfl) T.z_tuple (by decide +kernel)) ma_nil))) (me_one (me_callB (cr_all rfl) (n_all rfl) (by rfl) T.z_all (by decide +kernel) (ma_cons (me_lc [("c", 8)] rfl sc_law.nd (mi_seq rfl (me_var 25)) (blkOk_by (N := ((["script", "state", "a", "b", "n", "both", "row", "g", "c", "small", "most", "total", "k", "t", "product", "m", "size", "listed", "items", "orders", "own", "falls", "shapes", "one", "two", "value", "whole", "plain", "d", "bad"] : List Str) ++ (["i", "j", "x"] : List Str))) (sc := defScope s_law) (own := [("c", 8)]) (by decide +kernel)) (fun _ _ _ _ _ _ => (mg_name (i := 8) sc_law.nd rfl (by first | exact Or.inl rfl | exact Or.inr rfl))) (fun _ _ _ _ _ _ => mts_nil) (fun _ _ _ _ _ _ => (me_and (me_callB call_isi (n_isi rfl) (by rfl) T.z_isinstance (by decide +kernel) (ma_cons (me_var 8) (ma_cons (me_ty .int (by rfl) T.z_int (by decide +kernel)) ma_nil))) (me_one (me_not (me_callB call_isi (n_isi rfl) (by rfl) T.z_isinstance (by decide +kernel) (ma_cons (me_var 8) (ma_cons (me_ty .bool (by rfl) T.z_bool (by decide +kernel)) ma_nil)))))))) ma_nil)))))
      (ms_cons (ms_set (i := 21) sc_law.nd rfl (by first | exact Or.inl rfl | exact Or.inr rfl) (me_and (me_var 27) (me_and (me_callB (cr_all rfl) (n_all rfl) (by rfl) T.z_all (by decide +kernel) (ma_cons (me_lc [("c", 8)] rfl sc_law.nd (mi_seq rfl (me_var 25)) (blkOk_by (N := ((["script", "state", "a", "b", "n", "both", "row", "g", "c", "small", "most", "total", "k", "t", "product", "m", "size", "listed", "items", "orders", "own", "falls", "shapes", "one", "two", "value", "whole", "plain", "d", "bad"] : List Str) ++ (["i", "j", "x"] : List Str))) (sc := defScope s_law) (own := [("c", 8)]) (by decide +kernel)) (fun _ _ _ _ _ _ => (mg_name (i := 8) sc_law.nd rfl (by first | exact Or.inl rfl | exact Or.inr rfl))) (fun _ _ _ _ _ _ => mts_nil) (fun _ _ _ _ _ _ => (me_cmp op_gt p_gt (me_var 8) me_int (nomark _)))) ma_nil)) (me_one (me_callB (cr_all rfl) (n_all rfl) (by rfl) T.z_all (by decide +kernel) (ma_cons (me_lc [("k", 12)] rfl sc_law.nd (mi_range1 (by rfl) T.z_range (ma_cons (me_op op_subX p_sub (me_callB cr_lenX (n_len rfl) (by rfl) T.z_len (by decide +kernel) (ma_cons (me_var 25) ma_nil)) me_int) ma_nil)) (blkOk_by (N := ((["script", "state", "a", "b", "n", "both", "row", "g", "c", "small", "most", "total", "k", "t", "product", "m", "size", "listed", "items", "orders", "own", "falls", "shapes", "one", "two", "value", "whole", "plain", "d", "bad"] : List Str) ++ (["i", "j", "x"] : List Str))) (sc := defScope s_law) (own := [("k", 12)]) (by decide +kernel)) (fun _ _ _ _ _ _ => (mg_name (i := 12) sc_law.nd rfl (by first | exact Or.inl rfl | exact Or.inr rfl))) (fun _ _ _ _ _ _ => mts_nil) (fun _ _ _ _ _ _ => (me_cmp op_ge p_ge (me_ix ix_seq (p_ix rfl) (me_var 25) (me_var 12) (fun _ _ => rfl)) (me_ix ix_seq (p_ix rfl) (me_var 25) (me_op op_addX (p_add rfl) (me_var 12) me_int) (fun _ _ => rfl)) (nomark _)))) ma_nil))))))
      (ms_one (ms_if (PW.pt (mw_or (mt_not (mt_v rfl (me_call (ok__law_says T) (hr.mono (by decide)) (by rfl) T.g__law_says (takes_of rfl rfl rfl rfl) (ma_cons (me_call (ok_is_integer T) (hr.mono (by decide)) (by rfl) T.g_is_integer (takes_of rfl rfl rfl rfl) (ma_cons (me_var 25) ma_nil)) (ma_cons (me_var 26) ma_nil))))) (mw_or (mt_not (mt_v rfl (me_call (ok__law_says T) (hr.mono (by decide)) (by rfl) T.g__law_says (takes_of rfl rfl rfl rfl) (ma_cons (me_call (ok_is_row T) (hr.mono (by decide)) (by rfl) T.g_is_row (takes_of rfl rfl rfl rfl) (ma_cons (me_var 25) ma_nil)) (ma_cons (me_var 27) ma_nil))))) (mw_o1 (mt_not (mt_v rfl (me_call (ok__law_says T) (hr.mono (by decide)) (by rfl) T.g__law_says (takes_of rfl rfl rfl rfl) (ma_cons (me_call (ok_is_partition T) (hr.mono (by decide)) (by rfl) T.g_is_partition (takes_of rfl rfl rfl rfl) (ma_cons (me_var 25) ma_nil)) (ma_cons (me_var 21) ma_nil))))))))) (ms_one (ms_ret me_bl)) ms_nil))))))
      (ms_one (ms_ret (me_call (ok__law_all_malformed T (tabok1 T) (tabok2 T) (tabok3 T) (tabok4 T) (tabok5 T)) (hr.mono (by decide)) (by rfl) T.g__law_all_malformed (takes_of rfl rfl rfl rfl) (ma_cons (me_lc [("bad", 29)] rfl sc_law.nd (mi_seq rfl (me_lst (ma_cons (me_e1 un_neg p_neg me_int) (ma_cons me_int (ma_cons me_bl (ma_cons me_non (ma_cons me_str (ma_cons (me_tup (ma_cons me_int ma_nil)) ma_nil)))))))) (blkOk_by (N := ((["script", "state", "a", "b", "n", "both", "row", "g", "c", "small", "most", "total", "k", "t", "product", "m", "size", "listed", "items", "orders", "own", "falls", "shapes", "one", "two", "value", "whole", "plain", "d", "bad"] : List Str) ++ (["i", "j", "x"] : List Str))) (sc := defScope s_law) (own := [("bad", 29)]) (by decide +kernel)) (fun _ _ _ _ _ _ => (mg_name (i := 29) sc_law.nd rfl (by first | exact Or.inl rfl | exact Or.inr rfl))) (fun _ _ _ _ _ _ => mts_nil) (fun _ _ _ _ _ _ => (me_tup (ma_cons (me_gl 18 (by rfl) T.g_partitions_of) (ma_cons (me_tup (ma_cons (me_var 29) ma_nil)) ma_nil))))) ma_nil))))))))))))))))))))))))))))))))))))))
end
end K00

/-! k00, plain: the state, the draws, the mirror. -/
namespace K00
open PySem PySem.Spec PyProof.Rows L2 MM
theorem seq_nx {m1 m2 : M Fl} {E E1 : Ev} (h : m1 E = .ok .nx E1) : sSeq m1 m2 E = m2 E1 := by
  unfold sSeq
  rw [h]
  rfl
theorem seq_rt {m1 m2 : M Fl} {E E1 : Ev} {r : RV} (h : m1 E = .ok (.rt r) E1) : sSeq m1 m2 E = .ok (.rt r) E1 := by
  unfold sSeq
  rw [h]
  rfl
theorem mFn_rt {N : Nat} {m : M Fl} {ds : List D} {r : RV} {E : Ev} (h : m (ev0 N ds) = .ok (.rt r) E) : mFn N m ds = .ok r := by
  unfold mFn
  rw [h]
theorem eLc_ok {mi : M (List D)} {g : Tgt} {mt : M Bool} {me : M RV} {vs : List Nat} {E E1 E2 : Ev} {ds acc : List D} (h : mi E = .ok ds E1) (hL : lcL g mt me vs ds (wipeE E1 vs) [] = .ok acc E2) : eLc mi g mt me vs E = .ok (.fr (.lst acc)) (restE E1 vs E2) := by
  unfold eLc
  rw [h]
  show (lcL g mt me vs ds (wipeE E1 vs) []).bind _ = _
  rw [hL]
  rfl
theorem eN1_ok {f : List D → Option RV} {m : M RV} {E E1 : Ev} {r R : RV} (h : m E = .ok r E1) (hf : f [r.d] = some R) : eN f (aCons m aNil) E = .ok R E1 := by
  unfold eN aCons aNil
  rw [h]
  show liftO (f [r.d]) E1 = _
  rw [hf]
  rfl
theorem iN1_ok {f : List D → Option (List D)} {m : M RV} {E E1 : Ev} {r : RV} {R : List D} (h : m E = .ok r E1) (hf : f [r.d] = some R) : iN f (aCons m aNil) E = .ok R E1 := by
  unfold iN aCons aNil
  rw [h]
  show (match f [r.d] with | some xs => Out.ok xs E1 | none => .stuck) = _
  rw [hf]
theorem eAnd_t {ma mb : M RV} {E E1 : Ev} {r : RV} (h : ma E = .ok r E1) (hr : r.d = .bl true) : eAnd ma mb E = mb E1 := by
  unfold eAnd
  rw [h]
  show (match r.d with | .bl true => mb E1 | .bl false => .ok (.sh (.bl false)) E1 | _ => .stuck) = _
  rw [hr]
theorem sRet_ok {m : M RV} {E E1 : Ev} {r : RV} (h : m E = .ok r E1) : sRet m E = .ok (.rt r) E1 := by
  unfold sRet
  rw [h]
  rfl
theorem sAsg_ok {i : Nat} {m : M RV} {E E1 : Ev} {d : D} (h : m E = .ok (.sh d) E1) : sAsg i m E = .ok .nx (E1.set i (.sh d)) := by
  unfold sAsg
  rw [h]
  rfl
theorem sAsg_fr {i : Nat} {m : M RV} {E E1 : Ev} {d : D} (h : m E = .ok (.fr d) E1) : sAsg i m E = .ok .nx (E1.set i (.ow d)) := by
  unfold sAsg
  rw [h]
  rfl
theorem sIf_t {mt : M Bool} {ma mb : M Fl} {E E1 : Ev} (h : mt E = .ok true E1) : sIf mt ma mb E = ma E1 := by
  unfold sIf
  rw [h]
  rfl
theorem sIf_f {mt : M Bool} {ma mb : M Fl} {E E1 : Ev} (h : mt E = .ok false E1) : sIf mt ma mb E = mb E1 := by
  unfold sIf
  rw [h]
  rfl
theorem tNotV_ok {m : M RV} {E E1 : Ev} {r : RV} (h : m E = .ok r E1) (hr : r.d = .bl true) : MM.tNot (tV m) E = .ok false E1 := by
  unfold MM.tNot tV
  rw [h]
  show Out.bind (match truD r.d with | some k => _ | none => _) _ = _
  rw [hr]
  rfl
theorem tOr_f {ta tb : M Bool} {E E1 : Ev} (h : ta E = .ok false E1) : MM.tOr ta tb E = tb E1 := by
  unfold MM.tOr
  rw [h]
  rfl
theorem eCall2_ok {f : List D → FO} {ma mb : M RV} {E E1 E2 : Ev} {ra rb r : RV} (ha : ma E = .ok ra E1) (hb : mb E1 = .ok rb E2) (hf : f [ra.d, rb.d] = .ok r) : eCall 2 f (aCons ma (aCons mb aNil)) E = .ok r E2 := by
  unfold eCall aCons aNil
  rw [ha]
  show (Out.bind (Out.bind (Out.bind (mb E1) _) _) _) = _
  rw [hb]
  show goF (f [ra.d, rb.d]) E2 = _
  rw [hf]
  rfl
theorem eCall1_ok {f : List D → FO} {ma : M RV} {E E1 : Ev} {ra r : RV} (ha : ma E = .ok ra E1) (hf : f [ra.d] = .ok r) : eCall 1 f (aCons ma aNil) E = .ok r E1 := by
  unfold eCall aCons aNil
  rw [ha]
  show goF (f [ra.d]) E1 = _
  rw [hf]
  rfl
theorem e2_ok {f : D → D → Option RV} {ma mb : M RV} {E E1 E2 : Ev} {ra rb r : RV} (ha : ma E = .ok ra E1) (hb : mb E1 = .ok rb E2) (hf : f ra.d rb.d = some r) : e2 f ma mb E = .ok r E2 := by
  unfold e2
  rw [ha]
  show (Out.bind (mb E1) _) = _
  rw [hb]
  show liftO (f ra.d rb.d) E2 = _
  rw [hf]
  rfl
theorem mulOk_r (i j : Int) (h : -(2 ^ 64) < j ∧ j < 2 ^ 64) : mulOk i j = true := by
  unfold mulOk
  rw [decide_eq_true h]
  simp
theorem mulOk_l (i j : Int) (h : -(2 ^ 64) < i ∧ i < 2 ^ 64) : mulOk i j = true := by
  unfold mulOk
  rw [decide_eq_true h]
  simp
theorem fMul_r (i j : Int) (h : -(2 ^ 64) < j ∧ j < 2 ^ 64) : fMul (.int i) (.int j) = some (.sh (.int (i * j))) := by
  show (if mulOk i j = true then some (RV.sh (.int (i * j))) else none) = _
  rw [mulOk_r i j h]
  rfl
theorem fMul_l (i j : Int) (h : -(2 ^ 64) < i ∧ i < 2 ^ 64) : fMul (.int i) (.int j) = some (.sh (.int (i * j))) := by
  show (if mulOk i j = true then some (RV.sh (.int (i * j))) else none) = _
  rw [mulOk_l i j h]
  rfl
theorem fAdd_i (i j : Int) : fAdd (.int i) (.int j) = some (.sh (.int (i + j))) := rfl
theorem fSub_i (i j : Int) : fSub (.int i) (.int j) = some (.sh (.int (i - j))) := rfl
theorem fMod_i (i j : Int) (h : j ≠ 0) : fMod (.int i) (.int j) = some (.sh (.int (i.fmod j))) := by
  show (if decide (j ≠ 0) = true then some (RV.sh (.int (i.fmod j))) else none) = _
  rw [decide_eq_true h]
  rfl
theorem fFdiv_i (i j : Int) (h : j ≠ 0 ∧ j.natAbs < 1073741824) : fFdiv (.int i) (.int j) = some (.sh (.int (i.fdiv j))) := by
  show (if fdivOk j = true then some (RV.sh (.int (i.fdiv j))) else none) = _
  unfold fdivOk
  rw [decide_eq_true h]
  rfl
theorem fAbs_i (i : Int) : fAbs [.int i] = some (.sh (.int (if i < 0 then -i else i))) := rfl
theorem fInt1_i (i : Int) : fInt1 [.int i] = some (.sh (.int i)) := rfl
theorem cGt_i (i j : Int) : cGt (.int i) (.int j) = some (decide (j < i)) := rfl
theorem cLt_i (i j : Int) : cLt (.int i) (.int j) = some (decide (i < j)) := rfl
theorem cNe_i (i j : Int) : cNe (.int i) (.int j) = some (!(i == j)) := by
  unfold cNe
  rw [cEq_int]
  rfl

/-! ### the state -/
theorem state_loop : ∀ (ns : List Int) (d : D) (x y : Int) (c : Sl), ∃ (x' y' : Int) (c' : Sl), forL (gNm 3) (sSeq (sAsg 1 (e2 fAdd (e2 fMul (eV 1) (eC (.int 1000003))) (eN fAbs (aCons (eV 3) (aNil)))))
      (sAsg 2 (e2 fMod (eN fInt1 (aCons (e2 fAdd (e2 fMul (eV 2) (eC (.int 48271))) (eV 3)) (aNil))) (eC (.int 2147483647))))) (ns.map .int) [.sh d, .sh (.int x), .sh (.int y), c] = .ok .nx [.sh d, .sh (.int x'), .sh (.int y'), c']
  | [], d, x, y, c => ⟨x, y, c, rfl⟩
  | n :: ns, d, x, y, c => by
    obtain ⟨x', y', c', h⟩ := state_loop ns d (x * 1000003 + (if n < 0 then -n else n)) ((y * 48271 + n).fmod 2147483647) (.sh (.int n))
    refine ⟨x', y', c', ?_⟩
    rw [← h]
    simp only [List.map_cons, forL, sSeq, sAsg, sAsgG, sPar, sIf, sRet, sFor, sNx, sDrop, goNx, gNm, gTp, gsCons, gsNil, eCall, eCallB, goF, goB, ownAt, Sl.own, aCons, aNil, eV, eC, e1, e2, eN, eIf, liftO, Out.bind, RV.d, iV, iN, tV, truD, MM.tOr, MM.tAnd, MM.tNot, t2, tTrue, eIxO, eLenO, hold, putH, sSetIx, eGive, Option.bind, List.getElem?_cons_succ, List.getElem?_cons_zero, List.set_cons_succ, List.set_cons_zero, List.length_cons, List.length_nil, fMul_r x 1000003 (by decide), fMul_r y 48271 (by decide), fAdd_i, fAbs_i, fInt1_i, fMod_i _ 2147483647 (by decide)]
theorem state_ok (ns : List Int) : ∃ s t : Int, f__law_state [.scr (ns.map .int)] = .ok (.fr (.lst [.int s, .int t])) := by
  obtain ⟨x, y, c, h⟩ := state_loop ((ns.drop (HT.sIx (ns.map D.int).length 0 none)).take (HT.sIx (ns.map D.int).length (ns.map D.int).length (some 63) - HT.sIx (ns.map D.int).length 0 none)) (.scr (ns.map .int)) 0 1 .un
  refine ⟨x, if (!(y == 1973665155)) = true then y else 7, ?_⟩
  unfold f__law_state mFn
  have e : m__law_state (ev0 4 [.scr (ns.map .int)]) = .ok (.rt (.fr (.lst [.int x, .int (if (!(y == 1973665155)) = true then y else 7)]))) [.sh (.scr (ns.map .int)), .sh (.int x), .sh (.int y), c] := by
    unfold m__law_state
    rw [List.map_take, List.map_drop] at h
    simp only [ev0, List.map_cons, List.map_nil, List.length_cons, List.length_nil, List.replicate, List.cons_append, List.nil_append, eSl, optM, fSl, itS, MM.cutD, sSeq, sAsg, sAsgG, sPar, sIf, sRet, sFor, sNx, sDrop, goNx, gNm, gTp, gsCons, gsNil, eCall, eCallB, goF, goB, ownAt, Sl.own, aCons, aNil, eV, eC, e1, e2, eN, eIf, liftO, Out.bind, RV.d, iV, iN, tV, truD, MM.tOr, MM.tAnd, MM.tNot, t2, tTrue, eIxO, eLenO, hold, putH, sSetIx, eGive, Option.bind, List.getElem?_cons_succ, List.getElem?_cons_zero, List.set_cons_succ, List.set_cons_zero, List.length_cons, List.length_nil]
    rw [h]
    simp only [cNe_i, sSeq, sAsg, sAsgG, sPar, sIf, sRet, sFor, sNx, sDrop, goNx, gNm, gTp, gsCons, gsNil, eCall, eCallB, goF, goB, ownAt, Sl.own, aCons, aNil, eV, eC, e1, e2, eN, eIf, liftO, Out.bind, RV.d, iV, iN, tV, truD, MM.tOr, MM.tAnd, MM.tNot, t2, tTrue, eIxO, eLenO, hold, putH, sSetIx, eGive, Option.bind, List.getElem?_cons_succ, List.getElem?_cons_zero, List.set_cons_succ, List.set_cons_zero, List.length_cons, List.length_nil]
    cases (!(y == 1973665155)) <;> rfl
  rw [e]

/-! ### a draw -/
def tkv (s t m : Int) : Int := if 0 < s then s.fmod m else (((t * 48271 + 11).fmod 2147483647).fdiv 7).fmod m
def tks (s m : Int) : Int := if 0 < s then s.fdiv m else s
def tkt (s t : Int) : Int := if 0 < s then t else (t * 48271 + 11).fmod 2147483647
theorem take_ok (s t m : Int) (h1 : 0 < m) (h2 : m < 1000000000) : f__law_take (.lst [.int s, .int t]) [.int m] = .ok (.sh (.int (tkv s t m))) (.lst [.int (tks s m), .int (tkt s t)]) := by
  have a0 : ∀ x y : Int, atI [D.int x, D.int y] 0 = some (.int x) := fun _ _ => rfl
  have a1 : ∀ x y : Int, atI [D.int x, D.int y] 1 = some (.int y) := fun _ _ => rfl
  have i0 : ixN 2 0 = some 0 := rfl
  have i1 : ixN 2 1 = some 1 := rfl
  have hm : m ≠ 0 := by omega
  have hd : m ≠ 0 ∧ m.natAbs < 1073741824 := ⟨hm, by omega⟩
  unfold f__law_take mFnB tkv tks tkt m__law_take
  by_cases h : 0 < s
  · simp only [if_pos h, ev0B, List.map_cons, List.map_nil, List.replicate, List.cons_append, List.nil_append, sSeq, sAsg, sAsgG, sPar, sIf, sRet, sFor, sNx, sDrop, goNx, gNm, gTp, gsCons, gsNil, eCall, eCallB, goF, goB, ownAt, Sl.own, aCons, aNil, eV, eC, e1, e2, eN, eIf, liftO, Out.bind, RV.d, iV, iN, tV, truD, MM.tOr, MM.tAnd, MM.tNot, t2, tTrue, eIxO, eLenO, hold, putH, sSetIx, eGive, Option.bind, List.getElem?_cons_succ, List.getElem?_cons_zero, List.set_cons_succ, List.set_cons_zero, List.length_cons, List.length_nil, a0, a1, i0, i1, cGt_i, decide_eq_true h, if_true, fInt1_i, fMod_i _ _ hm, fFdiv_i _ _ hd, boAt]
  · simp only [if_neg h, ev0B, List.map_cons, List.map_nil, List.replicate, List.cons_append, List.nil_append, sSeq, sAsg, sAsgG, sPar, sIf, sRet, sFor, sNx, sDrop, goNx, gNm, gTp, gsCons, gsNil, eCall, eCallB, goF, goB, ownAt, Sl.own, aCons, aNil, eV, eC, e1, e2, eN, eIf, liftO, Out.bind, RV.d, iV, iN, tV, truD, MM.tOr, MM.tAnd, MM.tNot, t2, tTrue, eIxO, eLenO, hold, putH, sSetIx, eGive, Option.bind, List.getElem?_cons_succ, List.getElem?_cons_zero, List.set_cons_succ, List.set_cons_zero, List.length_cons, List.length_nil, a0, a1, i0, i1, cGt_i, decide_eq_false h, Bool.false_eq_true, if_false, fInt1_i, fMul_r _ 48271 (by decide), fAdd_i, fMod_i _ _ hm, fMod_i _ 2147483647 (by decide), fFdiv_i _ 7 (by decide), boAt]
theorem tkv_b (s t m : Int) (h : 0 < m) : 0 ≤ tkv s t m ∧ tkv s t m < m := by
  unfold tkv
  split
  · exact ⟨Int.fmod_nonneg_of_pos _ h, Int.fmod_lt_of_pos _ h⟩
  · exact ⟨Int.fmod_nonneg_of_pos _ h, Int.fmod_lt_of_pos _ h⟩
end K00

/-! k00, plain: the mirror, comprehensions, divisors, common divisors. -/
namespace K00
open PySem PySem.Spec PyProof.Rows L2 MM
/-! ### a comprehension whose turns leave the slots -/
theorem lcL_run {α : Type} {g : Tgt} {mt : M Bool} {me : M RV} {vs : List Nat} {E : Ev} (mk : α → D) (p : α → Bool) (f : α → D) : ∀ (L : List α) (acc : List D),
    (∀ x ∈ L, ∃ E1, g (mk x) E = some E1 ∧ ((p x = true ∧ ∃ E2 r E3, mt E1 = .ok true E2 ∧ me E2 = .ok r E3 ∧ r.d = f x ∧ wipeE E3 vs = E) ∨ (p x = false ∧ ∃ E2, mt E1 = .ok false E2 ∧ wipeE E2 vs = E))) →
    acc.length + L.length ≤ sizeLine → lcL g mt me vs (L.map mk) E acc = .ok (acc ++ (L.filter p).map f) E
  | [], acc, _, _ => by
    show Out.ok acc E = _
    rw [List.filter_nil, List.map_nil, List.append_nil]
  | x :: L, acc, h, hl => by
    rw [List.length_cons] at hl
    obtain ⟨E1, h1, h2⟩ := h x List.mem_cons_self
    rw [List.map_cons]
    rcases h2 with ⟨hp, E2, r, E3, e1, e2, e3, e4⟩ | ⟨hp, E2, e1, e2⟩
    · have e : lcL g mt me vs (mk x :: L.map mk) E acc = lcL g mt me vs (L.map mk) E (acc ++ [f x]) := by
        conv => lhs; unfold lcL
        simp only [h1, e1, e2, e3, e4, if_pos (show acc.length < sizeLine by omega)]
      rw [e, lcL_run mk p f L _ (fun y hy => h y (List.mem_cons_of_mem _ hy)) (by rw [List.length_append, List.length_singleton]; omega), List.filter_cons_of_pos (by exact hp), List.map_cons, List.append_assoc]
      rfl
    · have e : lcL g mt me vs (mk x :: L.map mk) E acc = lcL g mt me vs (L.map mk) E acc := by
        conv => lhs; unfold lcL
        simp only [h1, e1, e2]
      rw [e, lcL_run mk p f L _ (fun y hy => h y (List.mem_cons_of_mem _ hy)) (by omega), List.filter_cons_of_neg (by rw [hp]; exact Bool.false_ne_true)]
theorem sizeBig : 2000000 < sizeLine := by decide
/-! ### the mirror -/
theorem same_succ (n : Nat) (ds : List D) : f__law_same (n + 1) ds = mFn 3 (m__law_same (f__law_same n)) ds := rfl
theorem same_int (n : Nat) (i j : Int) : f__law_same (n + 1) [.int i, .int j] = .ok (.sh (.bl (i == j))) := by
  have q0 : fIsi [.int j, .ty .bool] = some (.sh (.bl false)) := rfl
  have q1 : fIsi [.int j, .ty .tuple] = some (.sh (.bl false)) := rfl
  have q2 : fIsi [.int j, .ty .list] = some (.sh (.bl false)) := rfl
  have q3 : fIsi [.int j, .ty .str] = some (.sh (.bl false)) := rfl
  have q4 : cIsN (.int j) .non = some false := rfl
  have q5 : f__law_is_whole [.int i] = .ok (.sh (.bl true)) := rfl
  rw [same_succ]
  unfold mFn m__law_same
  simp only [ev0, List.map_cons, List.map_nil, List.replicate, List.cons_append, List.nil_append, sSeq, sAsg, sAsgG, sPar, sIf, sRet, sFor, sNx, sDrop, goNx, gNm, gTp, gsCons, gsNil, eCall, eCallB, goF, goB, ownAt, Sl.own, aCons, aNil, eV, eC, e1, e2, eN, eIf, liftO, Out.bind, RV.d, iV, iN, tV, truD, MM.tOr, MM.tAnd, MM.tNot, t2, tTrue, eIxO, eLenO, hold, putH, sSetIx, eGive, Option.bind, List.getElem?_cons_succ, List.getElem?_cons_zero, List.set_cons_succ, List.set_cons_zero, List.length_cons, List.length_nil, q0, q1, q2, q3, q4, q5, Bool.false_eq_true, if_false, eAnd, cmp, cEq_int, Option.map_some, if_true]
theorem isi_tup (xs : List D) : fIsi [.tup xs, .ty .bool] = some (.sh (.bl false)) ∧ fIsi [.tup xs, .ty .tuple] = some (.sh (.bl true)) := ⟨rfl, rfl⟩
theorem fLen_tup (xs : List D) : fLen [.tup xs] = some (.sh (.int xs.length)) := rfl
theorem rg1_n (n : Nat) (h : n < 1000000000) : rg1 [.int n] = some (rgD 0 n) := by
  show (if rgOk (n : Int) = true then some (rgD 0 ((n : Nat) : Int).toNat) else none) = _
  have : rgOk (n : Int) = true := by
    unfold rgOk
    rw [decide_eq_true (by omega), decide_eq_true (by omega)]
    rfl
  rw [this]
  rfl
theorem ixN_n (n k : Nat) (h : k < n) : ixN n (k : Int) = some k := by
  unfold ixN
  first
  | (rw [if_pos (by omega)]; first | rfl | (rw [if_pos (by omega)]; rfl) | simp [h])
  | simp [h]
theorem fIx_tup (xs : List D) (k : Nat) (d : D) (h : xs[k]? = some d) : fIx (.tup xs) (.int (k : Int)) = some (.sh d) := by
  show (atI xs (k : Int)).map RV.sh = _
  unfold atI
  have hk := (List.getElem?_eq_some_iff.mp h).1
  rw [ixN_n _ _ hk]
  show (xs[k]?).map RV.sh = _
  rw [h]
  rfl
theorem bls_rep {α : Type} : ∀ L : List α, bls (L.map fun _ => D.bl true) = some (L.map fun _ => true)
  | [] => rfl
  | x :: L => by
    show (bls (L.map fun _ => D.bl true)).map (true :: ·) = _
    rw [bls_rep L]
    rfl
theorem all_rep {α : Type} (L : List α) : fAll [.lst (L.map fun _ => D.bl true)] = some (.sh (.bl true)) := by
  show (bls (L.map fun _ => D.bl true)).map (fun bs => RV.sh (.bl (bs.all id))) = _
  rw [bls_rep]
  have : (L.map fun _ => true).all id = true := by
    rw [List.all_map]
    exact List.all_eq_true.mpr fun _ _ => rfl
  show some (RV.sh (.bl ((L.map fun _ => true).all id))) = _
  rw [this]
def sameBody (self : List D → FO) : M RV := eCall 2 self (aCons (e2 fIx (eV 0) (eV 2)) (aCons (e2 fIx (eV 1) (eV 2)) (aNil)))
theorem same_body (self : List D → FO) (xs ys : List D) (k : Nat) (x y : D) (h1 : xs[k]? = some x) (h2 : ys[k]? = some y) (h : self [x, y] = .ok (.sh (.bl true))) :
    sameBody self [.sh (.tup xs), .sh (.tup ys), .sh (.int (k : Int))] = .ok (.sh (.bl true)) [.sh (.tup xs), .sh (.tup ys), .sh (.int (k : Int))] := by
  unfold sameBody
  simp only [sSeq, sAsg, sAsgG, sPar, sIf, sRet, sFor, sNx, sDrop, goNx, gNm, gTp, gsCons, gsNil, eCall, eCallB, goF, goB, ownAt, Sl.own, aCons, aNil, eV, eC, e1, e2, eN, eIf, liftO, Out.bind, RV.d, iV, iN, tV, truD, MM.tOr, MM.tAnd, MM.tNot, t2, tTrue, eIxO, eLenO, hold, putH, sSetIx, eGive, Option.bind, List.getElem?_cons_succ, List.getElem?_cons_zero, List.set_cons_succ, List.set_cons_zero, List.length_cons, List.length_nil, fIx_tup xs k _ h1, fIx_tup ys k _ h2, h, if_true]
theorem same_lc (self : List D → FO) (xs ys : List D) (hl : xs.length = ys.length) (hz : ys.length ≤ 1000000) (h : ∀ (k : Nat) x y, xs[k]? = some x → ys[k]? = some y → self [x, y] = .ok (.sh (.bl true))) :
    lcL (gNm 2) tTrue (sameBody self) [2] (rgD 0 ys.length) [.sh (.tup xs), .sh (.tup ys), .un] [] = .ok ((List.range ys.length).map fun _ => D.bl true) [.sh (.tup xs), .sh (.tup ys), .un] := by
  have hs := sizeBig
  have hy : ([] : List D).length + (List.range ys.length).length ≤ sizeLine := by
    rw [List.length_nil, List.length_range, Nat.zero_add]
    exact Nat.le_trans hz (Nat.le_trans (by decide) (Nat.le_of_lt sizeBig))
  have := lcL_run (g := gNm 2) (mt := tTrue) (me := sameBody self) (vs := [2]) (E := [.sh (.tup xs), .sh (.tup ys), .un]) (fun k : Nat => D.int (0 + k)) (fun _ => true) (fun _ => D.bl true) (List.range ys.length) [] ?_ hy
  · rw [show rgD 0 ys.length = (List.range ys.length).map fun k : Nat => D.int (0 + k) from rfl, this, List.nil_append, List.filter_eq_self.mpr (fun _ _ => rfl)]
  · intro k hk
    have hk := List.mem_range.mp hk
    have hx : xs[k]? = some xs[k] := List.getElem?_eq_getElem (by omega)
    have hy : ys[k]? = some ys[k] := List.getElem?_eq_getElem hk
    refine ⟨[.sh (.tup xs), .sh (.tup ys), .sh (.int (0 + k))], rfl, .inl ⟨rfl, [.sh (.tup xs), .sh (.tup ys), .sh (.int (0 + k))], .sh (.bl true), [.sh (.tup xs), .sh (.tup ys), .sh (.int (0 + k))], rfl, ?_, rfl, rfl⟩⟩
    rw [Int.zero_add]
    exact same_body self xs ys k _ _ hx hy (h k _ _ hx hy)
theorem same_seq (self : List D → FO) (xs ys : List D) (hl : xs.length = ys.length) (hz : ys.length ≤ 1000000) (h : ∀ (k : Nat) x y, xs[k]? = some x → ys[k]? = some y → self [x, y] = .ok (.sh (.bl true))) :
    (sIf (tV (eN fIsi (aCons (eV 1) (aCons (eC (.ty .tuple)) (aNil)))))
      (sRet (eAnd (eN fIsi (aCons (eV 0) (aCons (eC (.ty .tuple)) (aNil)))) (eAnd (e2 (cmp cEq) (eN fLen (aCons (eV 0) (aNil))) (eN fLen (aCons (eV 1) (aNil)))) (eN fAll (aCons (eLc (iN rg1 (aCons (eN fLen (aCons (eV 1) (aNil))) (aNil))) (gNm 2) (tTrue) (sameBody self) [2]) (aNil)))))) (sNx)) [.sh (.tup xs), .sh (.tup ys), .un] = .ok (.rt (.sh (.bl true))) [.sh (.tup xs), .sh (.tup ys), .un] := by
  have hq : cEq (.int xs.length) (.int ys.length) = some true := by rw [cEq_int, hl]; simp
  refine (sIf_t (E1 := [.sh (.tup xs), .sh (.tup ys), .un]) ?_).trans (sRet_ok ?_)
  · simp only [sSeq, sAsg, sAsgG, sPar, sIf, sRet, sFor, sNx, sDrop, goNx, gNm, gTp, gsCons, gsNil, eCall, eCallB, goF, goB, ownAt, Sl.own, aCons, aNil, eV, eC, e1, e2, eN, eIf, liftO, Out.bind, RV.d, iV, iN, tV, truD, MM.tOr, MM.tAnd, MM.tNot, t2, tTrue, eIxO, eLenO, hold, putH, sSetIx, eGive, Option.bind, List.getElem?_cons_succ, List.getElem?_cons_zero, List.set_cons_succ, List.set_cons_zero, List.length_cons, List.length_nil, (isi_tup ys).2]
  · refine (eAnd_t (r := .sh (.bl true)) (E1 := [.sh (.tup xs), .sh (.tup ys), .un]) ?_ rfl).trans ((eAnd_t (r := .sh (.bl true)) (E1 := [.sh (.tup xs), .sh (.tup ys), .un]) ?_ rfl).trans ?_)
    · simp only [sSeq, sAsg, sAsgG, sPar, sIf, sRet, sFor, sNx, sDrop, goNx, gNm, gTp, gsCons, gsNil, eCall, eCallB, goF, goB, ownAt, Sl.own, aCons, aNil, eV, eC, e1, e2, eN, eIf, liftO, Out.bind, RV.d, iV, iN, tV, truD, MM.tOr, MM.tAnd, MM.tNot, t2, tTrue, eIxO, eLenO, hold, putH, sSetIx, eGive, Option.bind, List.getElem?_cons_succ, List.getElem?_cons_zero, List.set_cons_succ, List.set_cons_zero, List.length_cons, List.length_nil, (isi_tup xs).2]
    · simp only [sSeq, sAsg, sAsgG, sPar, sIf, sRet, sFor, sNx, sDrop, goNx, gNm, gTp, gsCons, gsNil, eCall, eCallB, goF, goB, ownAt, Sl.own, aCons, aNil, eV, eC, e1, e2, eN, eIf, liftO, Out.bind, RV.d, iV, iN, tV, truD, MM.tOr, MM.tAnd, MM.tNot, t2, tTrue, eIxO, eLenO, hold, putH, sSetIx, eGive, Option.bind, List.getElem?_cons_succ, List.getElem?_cons_zero, List.set_cons_succ, List.set_cons_zero, List.length_cons, List.length_nil, cmp, fLen_tup, hq, Option.map_some]
    · refine eN1_ok (eLc_ok (iN1_ok (r := .sh (.int ys.length)) (E1 := [.sh (.tup xs), .sh (.tup ys), .un]) ?_ (rg1_n ys.length (by omega))) (same_lc self xs ys hl hz h)) (all_rep _)
      simp only [sSeq, sAsg, sAsgG, sPar, sIf, sRet, sFor, sNx, sDrop, goNx, gNm, gTp, gsCons, gsNil, eCall, eCallB, goF, goB, ownAt, Sl.own, aCons, aNil, eV, eC, e1, e2, eN, eIf, liftO, Out.bind, RV.d, iV, iN, tV, truD, MM.tOr, MM.tAnd, MM.tNot, t2, tTrue, eIxO, eLenO, hold, putH, sSetIx, eGive, Option.bind, List.getElem?_cons_succ, List.getElem?_cons_zero, List.set_cons_succ, List.set_cons_zero, List.length_cons, List.length_nil, fLen_tup]
theorem same_tup (n : Nat) (xs ys : List D) (hl : xs.length = ys.length) (hz : ys.length ≤ 1000000) (h : ∀ (k : Nat) x y, xs[k]? = some x → ys[k]? = some y → f__law_same n [x, y] = .ok (.sh (.bl true))) :
    f__law_same (n + 1) [.tup xs, .tup ys] = .ok (.sh (.bl true)) := by
  rw [same_succ]
  refine mFn_rt (E := [.sh (.tup xs), .sh (.tup ys), .un]) ?_
  show m__law_same (f__law_same n) [.sh (.tup xs), .sh (.tup ys), .un] = _
  unfold m__law_same
  refine (seq_nx (E1 := [.sh (.tup xs), .sh (.tup ys), .un]) ?_).trans (seq_rt (r := .sh (.bl true)) ?_)
  · simp only [sSeq, sAsg, sAsgG, sPar, sIf, sRet, sFor, sNx, sDrop, goNx, gNm, gTp, gsCons, gsNil, eCall, eCallB, goF, goB, ownAt, Sl.own, aCons, aNil, eV, eC, e1, e2, eN, eIf, liftO, Out.bind, RV.d, iV, iN, tV, truD, MM.tOr, MM.tAnd, MM.tNot, t2, tTrue, eIxO, eLenO, hold, putH, sSetIx, eGive, Option.bind, List.getElem?_cons_succ, List.getElem?_cons_zero, List.set_cons_succ, List.set_cons_zero, List.length_cons, List.length_nil, (isi_tup ys).1, Bool.false_eq_true, if_false]
  · exact same_seq (f__law_same n) xs ys hl hz h
theorem same_lst (n : Nat) (xs ys : List D) (hz : ys.length ≤ 1000000) (h : f__law_same n [.tup xs, .tup ys] = .ok (.sh (.bl true))) : f__law_same (n + 1) [.tup xs, .lst ys] = .ok (.sh (.bl true)) := by
  have hs := sizeBig
  have q0 : fIsi [.lst ys, .ty .bool] = some (.sh (.bl false)) := rfl
  have q1 : fIsi [.lst ys, .ty .tuple] = some (.sh (.bl false)) := rfl
  have q2 : fIsi [.lst ys, .ty .list] = some (.sh (.bl true)) := rfl
  have q3 : fTupOf [.lst ys] = some (.sh (.tup ys)) := by
    first
    | rfl
    | (show (if ys.length ≤ sizeLine then some (RV.sh (.tup ys)) else none) = _; rw [if_pos (by omega)])
  rw [same_succ]
  refine mFn_rt (E := [.sh (.tup xs), .sh (.lst ys), .un]) ?_
  show m__law_same (f__law_same n) [.sh (.tup xs), .sh (.lst ys), .un] = _
  unfold m__law_same
  refine (seq_nx (E1 := [.sh (.tup xs), .sh (.lst ys), .un]) ?_).trans ((seq_nx (E1 := [.sh (.tup xs), .sh (.lst ys), .un]) ?_).trans (seq_rt ?_))
  · simp only [sSeq, sAsg, sAsgG, sPar, sIf, sRet, sFor, sNx, sDrop, goNx, gNm, gTp, gsCons, gsNil, eCall, eCallB, goF, goB, ownAt, Sl.own, aCons, aNil, eV, eC, e1, e2, eN, eIf, liftO, Out.bind, RV.d, iV, iN, tV, truD, MM.tOr, MM.tAnd, MM.tNot, t2, tTrue, eIxO, eLenO, hold, putH, sSetIx, eGive, Option.bind, List.getElem?_cons_succ, List.getElem?_cons_zero, List.set_cons_succ, List.set_cons_zero, List.length_cons, List.length_nil, q0, Bool.false_eq_true, if_false]
  · simp only [sSeq, sAsg, sAsgG, sPar, sIf, sRet, sFor, sNx, sDrop, goNx, gNm, gTp, gsCons, gsNil, eCall, eCallB, goF, goB, ownAt, Sl.own, aCons, aNil, eV, eC, e1, e2, eN, eIf, liftO, Out.bind, RV.d, iV, iN, tV, truD, MM.tOr, MM.tAnd, MM.tNot, t2, tTrue, eIxO, eLenO, hold, putH, sSetIx, eGive, Option.bind, List.getElem?_cons_succ, List.getElem?_cons_zero, List.set_cons_succ, List.set_cons_zero, List.length_cons, List.length_nil, q1, Bool.false_eq_true, if_false]
  · simp only [sSeq, sAsg, sAsgG, sPar, sIf, sRet, sFor, sNx, sDrop, goNx, gNm, gTp, gsCons, gsNil, eCall, eCallB, goF, goB, ownAt, Sl.own, aCons, aNil, eV, eC, e1, e2, eN, eIf, liftO, Out.bind, RV.d, iV, iN, tV, truD, MM.tOr, MM.tAnd, MM.tNot, t2, tTrue, eIxO, eLenO, hold, putH, sSetIx, eGive, Option.bind, List.getElem?_cons_succ, List.getElem?_cons_zero, List.set_cons_succ, List.set_cons_zero, List.length_cons, List.length_nil, q2, q3, (isi_tup xs).2, if_true, eAnd, h]
theorem same_ints (n : Nat) (ns : List Int) (hz : ns.length ≤ 1000000) : f__law_same (n + 3) [.tup (ns.map .int), .lst (ns.map .int)] = .ok (.sh (.bl true)) := by
  refine same_lst _ _ _ (by rw [List.length_map]; exact hz) (same_tup _ _ _ rfl (by rw [List.length_map]; exact hz) fun k x y h1 h2 => ?_)
  rw [h1] at h2
  cases h2
  rw [List.getElem?_map] at h1
  obtain ⟨i, _, rfl⟩ := Option.map_eq_some_iff.mp h1
  rw [same_int]
  simp
/-! ### common -/
theorem eq0 (y : Nat) : cNe (.int (y : Int)) (.int 0) = some (!(y == 0)) := by
  rw [cNe_i]
  cases y with
  | zero => rfl
  | succ y => rfl
theorem common_loop : ∀ (fuel x y : Nat), y < fuel → whL (t2 cNe (eV 1) (eC (.int 0))) (sPar 0 1 (aCons (eV 1) (aCons (e2 fMod (eV 0) (eV 1)) (aNil)))) fuel [.sh (.int x), .sh (.int y)] = .ok .nx [.sh (.int (Nat.gcd x y : Nat)), .sh (.int (0 : Nat))]
  | 0, _, _, h => absurd h (Nat.not_lt_zero _)
  | fuel + 1, x, 0, _ => by
    unfold whL
    simp only [sSeq, sAsg, sAsgG, sPar, sIf, sRet, sFor, sNx, sDrop, goNx, gNm, gTp, gsCons, gsNil, eCall, eCallB, goF, goB, ownAt, Sl.own, aCons, aNil, eV, eC, e1, e2, eN, eIf, liftO, Out.bind, RV.d, iV, iN, tV, truD, MM.tOr, MM.tAnd, MM.tNot, t2, tTrue, eIxO, eLenO, hold, putH, sSetIx, eGive, Option.bind, List.getElem?_cons_succ, List.getElem?_cons_zero, List.set_cons_succ, List.set_cons_zero, List.length_cons, List.length_nil, eq0]
    simp
  | fuel + 1, x, y + 1, h => by
    have hne : ((y + 1 : Nat) : Int) ≠ 0 := by omega
    have hm : (x : Int).fmod ((y + 1 : Nat) : Int) = ((x % (y + 1) : Nat) : Int) := by
      rw [Int.fmod_eq_emod_of_nonneg _ (by omega)]
      omega
    have := common_loop fuel (y + 1) (x % (y + 1)) (by have : x % (y + 1) < y + 1 := Nat.mod_lt x (Nat.succ_pos y); omega)
    rw [show Nat.gcd x (y + 1) = Nat.gcd (y + 1) (x % (y + 1)) by rw [Nat.gcd_comm x, Nat.gcd_rec, Nat.gcd_comm]] 
    rw [← this]
    conv => lhs; unfold whL
    simp only [sSeq, sAsg, sAsgG, sPar, sIf, sRet, sFor, sNx, sDrop, goNx, gNm, gTp, gsCons, gsNil, eCall, eCallB, goF, goB, ownAt, Sl.own, aCons, aNil, eV, eC, e1, e2, eN, eIf, liftO, Out.bind, RV.d, iV, iN, tV, truD, MM.tOr, MM.tAnd, MM.tNot, t2, tTrue, eIxO, eLenO, hold, putH, sSetIx, eGive, Option.bind, List.getElem?_cons_succ, List.getElem?_cons_zero, List.set_cons_succ, List.set_cons_zero, List.length_cons, List.length_nil, eq0, fMod_i _ _ hne, hm]
    rfl
theorem common_ok (a b : Int) (h : b.natAbs < 1000000000) : f_common [.int a, .int b] = .ok (.sh (.int (Int.gcd a b : Nat))) := by
  have ha : ∀ i : Int, (if i < 0 then -i else i) = ((i.natAbs : Nat) : Int) := fun i => by split <;> omega
  unfold f_common mFn m_common
  simp only [ev0, List.map_cons, List.map_nil, List.replicate, List.cons_append, List.nil_append, sSeq, sAsg, sAsgG, sPar, sIf, sRet, sFor, sNx, sDrop, goNx, gNm, gTp, gsCons, gsNil, eCall, eCallB, goF, goB, ownAt, Sl.own, aCons, aNil, eV, eC, e1, e2, eN, eIf, liftO, Out.bind, RV.d, iV, iN, tV, truD, MM.tOr, MM.tAnd, MM.tNot, t2, tTrue, eIxO, eLenO, hold, putH, sSetIx, eGive, Option.bind, List.getElem?_cons_succ, List.getElem?_cons_zero, List.set_cons_succ, List.set_cons_zero, List.length_cons, List.length_nil, fAbs_i, ha]
  have q := common_loop 1000000000 a.natAbs b.natAbs h
  simp only [Nat.zero_add, Nat.reduceAdd, Nat.sub_self, List.replicate]
  rw [q]
  rfl
/-! ### divisors -/
def dvB (n : Int) (k : Nat) : Bool := n.fmod (1 + (k : Int)) == 0
def divL (n : Int) : List Int := ((List.range n.toNat).filter (dvB n)).map fun k : Nat => 1 + (k : Int)
theorem rg2_n (i : Int) (j : Int) (h1 : -1000000 ≤ i) (h2 : i ≤ 1000000) (h3 : -1000000 ≤ j) (h4 : j ≤ 1000000) : rg2 [.int i, .int j] = some (rgD i (j - i).toNat) := by
  show (if rgOk i = true ∧ rgOk j = true then some (rgD i (j - i).toNat) else none) = _
  have : ∀ x : Int, -1000000 ≤ x → x ≤ 1000000 → rgOk x = true := fun x _ _ => by
    unfold rgOk
    rw [decide_eq_true (by omega), decide_eq_true (by omega)]
    rfl
  rw [if_pos ⟨this _ h1 h2, this _ h3 h4⟩]
theorem lcdiv_ok (n : Int) (h1 : 1 ≤ n) (h2 : n ≤ 10000) : f__law_divisors [.int n] = .ok (.fr (.lst ((divL n).map .int))) := by
  have hs := sizeBig
  have hL : lcL (gNm 1) (t2 cEq (e2 fMod (eN fInt1 (aCons (eV 0) (aNil))) (eV 1)) (eC (.int 0))) (eV 1) [1] (rgD 1 n.toNat) [.sh (.int n), .un] [] = .ok ((divL n).map .int) [.sh (.int n), .un] := by
    have := lcL_run (g := gNm 1) (mt := t2 cEq (e2 fMod (eN fInt1 (aCons (eV 0) (aNil))) (eV 1)) (eC (.int 0))) (me := eV 1) (vs := [1]) (E := [.sh (.int n), .un]) (fun k : Nat => D.int (1 + k)) (dvB n) (fun k : Nat => D.int (1 + k)) (List.range n.toNat) [] ?_ (by simp; omega)
    · rw [show rgD 1 n.toNat = (List.range n.toNat).map fun k : Nat => D.int (1 + k) from rfl, this, List.nil_append, divL, List.map_map]
      rfl
    · intro k hk
      have hk : (1 : Int) + (k : Int) ≠ 0 := by omega
      refine ⟨_, rfl, ?_⟩
      have e : (t2 cEq (e2 fMod (eN fInt1 (aCons (eV 0) (aNil))) (eV 1)) (eC (.int 0))) [.sh (.int n), .sh (.int (1 + k))] = .ok (dvB n k) [.sh (.int n), .sh (.int (1 + k))] := by
        simp only [sSeq, sAsg, sAsgG, sPar, sIf, sRet, sFor, sNx, sDrop, goNx, gNm, gTp, gsCons, gsNil, eCall, eCallB, goF, goB, ownAt, Sl.own, aCons, aNil, eV, eC, e1, e2, eN, eIf, liftO, Out.bind, RV.d, iV, iN, tV, truD, MM.tOr, MM.tAnd, MM.tNot, t2, tTrue, eIxO, eLenO, hold, putH, sSetIx, eGive, Option.bind, List.getElem?_cons_succ, List.getElem?_cons_zero, List.set_cons_succ, List.set_cons_zero, List.length_cons, List.length_nil, fInt1_i, fMod_i _ _ hk, cEq_int, dvB]
      cases hd : dvB n k with
      | true => exact .inl ⟨rfl, _, _, _, by rw [← hd]; exact e, rfl, rfl, rfl⟩
      | false => exact .inr ⟨rfl, _, by rw [← hd]; exact e, rfl⟩
  unfold f__law_divisors mFn m__law_divisors
  simp only [ev0, List.map_cons, List.map_nil, List.replicate, List.cons_append, List.nil_append, sSeq, sAsg, sAsgG, sPar, sIf, sRet, sFor, sNx, sDrop, goNx, gNm, gTp, gsCons, gsNil, eCall, eCallB, goF, goB, ownAt, Sl.own, aCons, aNil, eV, eC, e1, e2, eN, eIf, liftO, Out.bind, RV.d, iV, iN, tV, truD, MM.tOr, MM.tAnd, MM.tNot, t2, tTrue, eIxO, eLenO, hold, putH, sSetIx, eGive, Option.bind, List.getElem?_cons_succ, List.getElem?_cons_zero, List.set_cons_succ, List.set_cons_zero, List.length_cons, List.length_nil, eLc, fAdd_i, rg2_n 1 (n + 1) (by omega) (by omega) (by omega) (by omega), wipeE, show n + 1 - 1 = n by omega, hL]
theorem div_ok (n : Int) (h1 : 1 ≤ n) (h2 : n ≤ 10000) : f_divisors [.int n] = .ok (.fr (.lst ((divL n).map .int))) := by
  have hs := sizeBig
  have hL : lcL (gNm 1) (t2 cEq (e2 fMod (eV 0) (eV 1)) (eC (.int 0))) (eV 1) [1] (rgD 1 n.toNat) [.sh (.int n), .un] [] = .ok ((divL n).map .int) [.sh (.int n), .un] := by
    have := lcL_run (g := gNm 1) (mt := t2 cEq (e2 fMod (eV 0) (eV 1)) (eC (.int 0))) (me := eV 1) (vs := [1]) (E := [.sh (.int n), .un]) (fun k : Nat => D.int (1 + k)) (dvB n) (fun k : Nat => D.int (1 + k)) (List.range n.toNat) [] ?_ (by simp; omega)
    · rw [show rgD 1 n.toNat = (List.range n.toNat).map fun k : Nat => D.int (1 + k) from rfl, this, List.nil_append, divL, List.map_map]
      rfl
    · intro k hk
      have hk : (1 : Int) + (k : Int) ≠ 0 := by omega
      refine ⟨_, rfl, ?_⟩
      have e : (t2 cEq (e2 fMod (eV 0) (eV 1)) (eC (.int 0))) [.sh (.int n), .sh (.int (1 + k))] = .ok (dvB n k) [.sh (.int n), .sh (.int (1 + k))] := by
        simp only [sSeq, sAsg, sAsgG, sPar, sIf, sRet, sFor, sNx, sDrop, goNx, gNm, gTp, gsCons, gsNil, eCall, eCallB, goF, goB, ownAt, Sl.own, aCons, aNil, eV, eC, e1, e2, eN, eIf, liftO, Out.bind, RV.d, iV, iN, tV, truD, MM.tOr, MM.tAnd, MM.tNot, t2, tTrue, eIxO, eLenO, hold, putH, sSetIx, eGive, Option.bind, List.getElem?_cons_succ, List.getElem?_cons_zero, List.set_cons_succ, List.set_cons_zero, List.length_cons, List.length_nil, fMod_i _ _ hk, cEq_int, dvB]
      cases hd : dvB n k with
      | true => exact .inl ⟨rfl, _, _, _, by rw [← hd]; exact e, rfl, rfl, rfl⟩
      | false => exact .inr ⟨rfl, _, by rw [← hd]; exact e, rfl⟩
  unfold f_divisors mFn m_divisors
  simp only [ev0, List.map_cons, List.map_nil, List.replicate, List.cons_append, List.nil_append, sSeq, sAsg, sAsgG, sPar, sIf, sRet, sFor, sNx, sDrop, goNx, gNm, gTp, gsCons, gsNil, eCall, eCallB, goF, goB, ownAt, Sl.own, aCons, aNil, eV, eC, e1, e2, eN, eIf, liftO, Out.bind, RV.d, iV, iN, tV, truD, MM.tOr, MM.tAnd, MM.tNot, t2, tTrue, eIxO, eLenO, hold, putH, sSetIx, eGive, Option.bind, List.getElem?_cons_succ, List.getElem?_cons_zero, List.set_cons_succ, List.set_cons_zero, List.length_cons, List.length_nil, eLc, fAdd_i, rg2_n 1 (n + 1) (by omega) (by omega) (by omega) (by omega), wipeE, show n + 1 - 1 = n by omega, hL]
theorem divL_len (n : Int) (h : n ≤ 10000) : (divL n).length ≤ 10000 := by
  unfold divL
  rw [List.length_map]
  refine Nat.le_trans (List.length_filter_le _ _) ?_
  rw [List.length_range]
  omega
end K00

/-! k00, plain: numbers. -/
namespace K00
open PySem PySem.Spec PyProof.Rows L2 MM
theorem maxI_of {L : List Int} {M : Int} (h1 : M ∈ L) (h2 : ∀ y ∈ L, y ≤ M) : maxI L = some M := by
  cases L with
  | nil => cases h1
  | cons x r =>
    obtain ⟨a, b⟩ := foldl_max r x
    have := h2 _ a
    have := b _ h1
    show some _ = some M
    congr 1
    omega
theorem intsD_map : ∀ ns : List Int, intsD (ns.map .int) = some ns
  | [] => rfl
  | n :: ns => by
    show (intsD (ns.map .int)).map (n :: ·) = _
    rw [intsD_map ns]
    rfl
theorem fMaxL_of {ns : List Int} {M : Int} (h1 : M ∈ ns) (h2 : ∀ y ∈ ns, y ≤ M) : fMaxL [.lst (ns.map .int)] = some (.sh (.int M)) := by
  show (intsD (ns.map .int)).bind _ = _
  rw [intsD_map]
  show (maxI ns).map _ = _
  rw [maxI_of h1 h2]
  rfl
theorem dv_iff (a : Int) (k : Nat) : (a.fmod (1 + (k : Int)) == 0) = true ↔ (k + 1) ∣ a.natAbs := by
  rw [beq_iff_eq, ← Int.dvd_iff_fmod_eq_zero, show (1 : Int) + (k : Int) = ((k + 1 : Nat) : Int) by omega]
  exact Int.ofNat_dvd_left
/-- the greatest of 1.. that divides both -/
theorem gcd_top (a b : Int) (h : a ≠ 0 ∨ b ≠ 0) : 0 < Int.gcd a b ∧ ((Int.gcd a b - 1) + 1) ∣ a.natAbs ∧ ((Int.gcd a b - 1) + 1) ∣ b.natAbs ∧ ∀ k : Nat, (k + 1) ∣ a.natAbs → (k + 1) ∣ b.natAbs → (k + 1 : Nat) ≤ Int.gcd a b := by
  have hp : 0 < Nat.gcd a.natAbs b.natAbs := by
    rcases h with h | h
    · exact Nat.gcd_pos_of_pos_left _ (by omega)
    · exact Nat.gcd_pos_of_pos_right _ (by omega)
  have e : Int.gcd a b = Nat.gcd a.natAbs b.natAbs := rfl
  have e2 : (Nat.gcd a.natAbs b.natAbs - 1) + 1 = Nat.gcd a.natAbs b.natAbs := by omega
  rw [e, e2]
  exact ⟨hp, Nat.gcd_dvd_left _ _, Nat.gcd_dvd_right _ _, fun k h1 h2 => Nat.le_of_dvd hp (Nat.dvd_gcd h1 h2)⟩
def absI (i : Int) : Int := if i < 0 then -i else i
def mx3 (a b c : Int) : Int := if b > a then (if c > b then c else b) else (if c > a then c else a)
def topN (a b : Int) : Int := mx3 (absI a) (absI b) 1
def bothP (a b : Int) (k : Nat) : Bool := a.fmod (1 + (k : Int)) == 0 && b.fmod (1 + (k : Int)) == 0
def bothN (a b : Int) : List Nat := ((List.range (topN a b).toNat).filter (dvB (topN a b))).filter (bothP a b)
def bothL (a b : Int) : List Int := (bothN a b).map fun k : Nat => 1 + (k : Int)
theorem both_max (a b : Int) (h : a ≠ 0 ∨ b ≠ 0) : fMaxL [.lst ((bothL a b).map .int)] = some (.sh (.int (Int.gcd a b : Nat))) := by
  obtain ⟨hp, h1, h2, h3⟩ := gcd_top a b h
  have hN : (topN a b).natAbs = a.natAbs ∨ (topN a b).natAbs = b.natAbs := by
    unfold topN mx3 absI
    split <;> split <;> split <;> split <;> omega
  have hg : (Int.gcd a b) ≤ (topN a b).toNat := by
    have ha : a ≠ 0 → Int.gcd a b ≤ a.natAbs := fun q => Nat.le_of_dvd (by omega) (Nat.gcd_dvd_left _ _)
    have hb : b ≠ 0 → Int.gcd a b ≤ b.natAbs := fun q => Nat.le_of_dvd (by omega) (Nat.gcd_dvd_right _ _)
    have hm : a.natAbs ≤ (topN a b).toNat ∧ b.natAbs ≤ (topN a b).toNat := by
      unfold topN mx3 absI
      split <;> split <;> split <;> split <;> omega
    rcases h with h | h
    · have := ha h; omega
    · have := hb h; omega
  refine fMaxL_of ?_ fun y hy => ?_
  · unfold bothL
    refine List.mem_map.mpr ⟨Int.gcd a b - 1, ?_, by omega⟩
    unfold bothN
    refine List.mem_filter.mpr ⟨List.mem_filter.mpr ⟨List.mem_range.mpr (by omega), ?_⟩, ?_⟩
    · unfold dvB
      rw [dv_iff]
      rcases hN with e | e
      · rw [e]; exact h1
      · rw [e]; exact h2
    · unfold bothP
      rw [Bool.and_eq_true, dv_iff, dv_iff]
      exact ⟨h1, h2⟩
  · unfold bothL at hy
    obtain ⟨k, hk, rfl⟩ := List.mem_map.mp hy
    have := (List.mem_filter.mp hk).2
    unfold bothP at this
    rw [Bool.and_eq_true, dv_iff, dv_iff] at this
    have := h3 k this.1 this.2
    omega
/-! ### the turn of g -/
def gP (c g : Int) (k : Nat) : Bool := c.fmod (1 + (k : Int)) == 0 && (g == 0 || g.fmod (1 + (k : Int)) == 0)
def gL (c g : Int) : List Int := ((List.range 100).filter (gP c g)).map fun k : Nat => 1 + (k : Int)
theorem g_max (c : Int) (g : Nat) (hc : c.natAbs ≤ 100) (hg : g ≤ 100) (h : c ≠ 0 ∨ g ≠ 0) : fMaxL [.lst ((gL c g).map .int ++ [.int 0])] = some (.sh (.int (Int.gcd g c : Nat))) ∧ Int.gcd g c ≤ 100 := by
  have h' : (g : Int) ≠ 0 ∨ c ≠ 0 := by omega
  obtain ⟨hp, h1, h2, h3⟩ := gcd_top g c h'
  have hb : Int.gcd g c ≤ 100 := by
    have ha : (g : Int) ≠ 0 → Int.gcd g c ≤ (g : Int).natAbs := fun q => Nat.le_of_dvd (by omega) (Nat.gcd_dvd_left _ _)
    have hb : c ≠ 0 → Int.gcd g c ≤ c.natAbs := fun q => Nat.le_of_dvd (by omega) (Nat.gcd_dvd_right _ _)
    rcases h' with h | h
    · have := ha h; omega
    · have := hb h; omega
  refine ⟨?_, hb⟩
  rw [show (gL c g).map D.int ++ [D.int 0] = (gL c g ++ [0]).map .int by rw [List.map_append]; rfl]
  refine fMaxL_of (List.mem_append_left _ ?_) fun y hy => ?_
  · unfold gL
    refine List.mem_map.mpr ⟨Int.gcd g c - 1, List.mem_filter.mpr ⟨List.mem_range.mpr (by omega), ?_⟩, by omega⟩
    unfold gP
    rw [Bool.and_eq_true, Bool.or_eq_true, dv_iff, dv_iff]
    exact ⟨h2, .inr h1⟩
  · rcases List.mem_append.mp hy with hy | hy
    · unfold gL at hy
      obtain ⟨k, hk, rfl⟩ := List.mem_map.mp hy
      have := (List.mem_filter.mp hk).2
      unfold gP at this
      rw [Bool.and_eq_true, Bool.or_eq_true, dv_iff, dv_iff] at this
      have := h3 k (by
        rcases this.2 with e | e
        · have : (g : Int) = 0 := by simpa using e
          rw [this]; exact Nat.dvd_zero _
        · exact e) this.1
      omega
    · rw [List.mem_singleton.mp hy]; omega
/-! ### common_of -/
def gF (g : Nat) (c : Int) : Nat := Int.gcd g c
theorem gF_one : ∀ row : List Int, row.foldl gF 1 = 1
  | [] => rfl
  | c :: row => by
    rw [List.foldl_cons, show gF 1 c = 1 from Nat.gcd_one_left _]
    exact gF_one row
def coBody : M Fl := sSeq (sAsg 1 (eCall 2 f_common (aCons (eV 1) (aCons (eV 2) (aNil)))))
      (sIf (t2 cEq (eV 1) (eC (.int 1)))
      (sRet (eC (.int 1))) (sNx))
theorem co_turn (d : D) (g : Nat) (c : Int) (hc : c.natAbs < 1000000000) : coBody [.sh d, .sh (.int g), .sh (.int c)] = if gF g c = 1 then .ok (.rt (.sh (.int 1))) [.sh d, .sh (.int (gF g c : Nat)), .sh (.int c)] else .ok .nx [.sh d, .sh (.int (gF g c : Nat)), .sh (.int c)] := by
  unfold coBody
  rw [seq_nx (E1 := [.sh d, .sh (.int (gF g c : Nat)), .sh (.int c)]) (by simp only [sSeq, sAsg, sAsgG, sPar, sIf, sRet, sFor, sNx, sDrop, goNx, gNm, gTp, gsCons, gsNil, eCall, eCallB, goF, goB, ownAt, Sl.own, aCons, aNil, eV, eC, e1, e2, eN, eIf, liftO, Out.bind, RV.d, iV, iN, tV, truD, MM.tOr, MM.tAnd, MM.tNot, t2, tTrue, eIxO, eLenO, hold, putH, sSetIx, eGive, Option.bind, List.getElem?_cons_succ, List.getElem?_cons_zero, List.set_cons_succ, List.set_cons_zero, List.length_cons, List.length_nil, common_ok g c hc, if_true]; rfl)]
  have hq : cEq (.int (gF g c : Nat)) (.int 1) = some (decide (gF g c = 1)) := by
    rw [cEq_int]
    congr 1
    by_cases h : gF g c = 1
    · rw [h]; rfl
    · rw [decide_eq_false h]
      exact beq_eq_false_iff_ne.mpr (by omega)
  simp only [sSeq, sAsg, sAsgG, sPar, sIf, sRet, sFor, sNx, sDrop, goNx, gNm, gTp, gsCons, gsNil, eCall, eCallB, goF, goB, ownAt, Sl.own, aCons, aNil, eV, eC, e1, e2, eN, eIf, liftO, Out.bind, RV.d, iV, iN, tV, truD, MM.tOr, MM.tAnd, MM.tNot, t2, tTrue, eIxO, eLenO, hold, putH, sSetIx, eGive, Option.bind, List.getElem?_cons_succ, List.getElem?_cons_zero, List.set_cons_succ, List.set_cons_zero, List.length_cons, List.length_nil, hq, decide_eq_true_eq]
theorem co_loop (d : D) : ∀ (row : List Int) (g : Nat) (z : Sl), (∀ c ∈ row, c.natAbs < 1000000000) → ∃ (z' : Sl), forL (gNm 2) coBody (row.map .int) [.sh d, .sh (.int g), z] = .ok .nx [.sh d, .sh (.int (row.foldl gF g : Nat)), z'] ∨ ∃ E, row.foldl gF g = 1 ∧ forL (gNm 2) coBody (row.map .int) [.sh d, .sh (.int g), z] = .ok (.rt (.sh (.int 1))) E
  | [], g, z, _ => ⟨z, .inl rfl⟩
  | c :: row, g, z, h => by
    have e := co_turn d g c (h c List.mem_cons_self)
    obtain ⟨z', q⟩ := co_loop d row (gF g c) (.sh (.int c)) fun x hx => h x (List.mem_cons_of_mem _ hx)
    rw [List.map_cons, List.foldl_cons]
    by_cases h1 : gF g c = 1
    · rw [if_pos h1] at e
      refine ⟨z, .inr ⟨[.sh d, .sh (.int (gF g c : Nat)), .sh (.int c)], by rw [h1]; exact gF_one row, ?_⟩⟩
      unfold forL
      simp only [gNm, List.set_cons_succ, List.set_cons_zero, e, Out.bind]
    · rw [if_neg h1] at e
      have ef : forL (gNm 2) coBody (.int c :: row.map .int) [.sh d, .sh (.int g), z] = forL (gNm 2) coBody (row.map .int) [.sh d, .sh (.int (gF g c : Nat)), .sh (.int c)] := by
        conv => lhs; unfold forL
        simp only [gNm, List.set_cons_succ, List.set_cons_zero, e, Out.bind]
      rw [ef]
      exact ⟨z', q⟩
theorem itS_tup (xs : List D) : itS (.tup xs) = some xs := rfl
theorem sFor_ok {mi : M (List D)} {g : Tgt} {body : M Fl} {E E1 : Ev} {ds : List D} (h : mi E = .ok ds E1) : sFor mi g body E = forL g body ds E1 := by
  unfold sFor
  rw [h]
  rfl
theorem common_of_ok (row : List Int) (h : ∀ c ∈ row, c.natAbs < 1000000000) : f_common_of [.tup (row.map .int)] = .ok (.sh (.int (row.foldl gF 0 : Nat))) := by
  obtain ⟨z', q⟩ := co_loop (.tup (row.map .int)) row 0 .un h
  have e : m_common_of (ev0 3 [.tup (row.map .int)]) = (sSeq (sFor (iV itS (eV 0)) (gNm 2) coBody) (sRet (eGive 1))) [.sh (.tup (row.map .int)), .sh (.int (0 : Nat)), .un] := rfl
  have ef : sFor (iV itS (eV 0)) (gNm 2) coBody [.sh (.tup (row.map .int)), .sh (.int (0 : Nat)), .un] = forL (gNm 2) coBody (row.map .int) [.sh (.tup (row.map .int)), .sh (.int (0 : Nat)), .un] := sFor_ok (by simp only [sSeq, sAsg, sAsgG, sPar, sIf, sRet, sFor, sNx, sDrop, goNx, gNm, gTp, gsCons, gsNil, eCall, eCallB, goF, goB, ownAt, Sl.own, aCons, aNil, eV, eC, e1, e2, eN, eIf, liftO, Out.bind, RV.d, iV, iN, tV, truD, MM.tOr, MM.tAnd, MM.tNot, t2, tTrue, eIxO, eLenO, hold, putH, sSetIx, eGive, Option.bind, List.getElem?_cons_succ, List.getElem?_cons_zero, List.set_cons_succ, List.set_cons_zero, List.length_cons, List.length_nil, itS_tup])
  rcases q with q | ⟨E, e1, q⟩
  · refine mFn_rt (E := [.sh (.tup (row.map .int)), .sh (.int (row.foldl gF 0 : Nat)), z']) ?_
    rw [e, seq_nx (ef.trans q)]
    rfl
  · refine mFn_rt (E := E) ?_
    rw [e, seq_rt (ef.trans q), e1]
    rfl
/-! ### least_multiple -/
def lF (g : Nat) (c : Nat) : Nat := Nat.lcm g c
theorem lF_eq (g c : Nat) : g / Nat.gcd g c * c = lF g c := by
  unfold lF Nat.lcm
  obtain ⟨q, hq⟩ := Nat.gcd_dvd_left g c
  rcases Nat.eq_zero_or_pos (Nat.gcd g c) with h0 | h0
  · have := Nat.eq_zero_of_gcd_eq_zero_left h0
    rw [this]; simp
  · have e1 : g / Nat.gcd g c = q := Nat.div_eq_of_eq_mul_right h0 hq
    rw [e1]
    refine (Nat.div_eq_of_eq_mul_right h0 ?_).symm
    rw [← Nat.mul_assoc, ← hq]
def lmBody : M Fl := sAsg 1 (e2 fMul (e2 fFdiv (eV 1) (eCall 2 f_common (aCons (eV 1) (aCons (eV 2) (aNil))))) (eV 2))
theorem lm_turn (d : D) (g c : Nat) (h0 : 0 < g) (hg : g < 1000000000) (hc0 : 0 < c) (hc : c < 1000000000) : lmBody [.sh d, .sh (.int (g : Int)), .sh (.int (c : Int))] = .ok .nx [.sh d, .sh (.int ((lF g c : Nat) : Int)), .sh (.int (c : Int))] := by
  have hgc : 0 < Nat.gcd g c := Nat.gcd_pos_of_pos_left _ h0
  have hle : Nat.gcd g c ≤ g := Nat.gcd_le_left _ h0
  have hI : Int.gcd (g : Int) (c : Int) = Nat.gcd g c := rfl
  have hd : ((Nat.gcd g c : Nat) : Int) ≠ 0 ∧ ((Nat.gcd g c : Nat) : Int).natAbs < 1073741824 := ⟨by omega, by omega⟩
  have hf : (g : Int).fdiv ((Nat.gcd g c : Nat) : Int) = ((g / Nat.gcd g c : Nat) : Int) := by
    rw [Int.fdiv_eq_ediv_of_nonneg _ (by omega)]
    rfl
  unfold lmBody
  refine (sAsg_ok (E1 := [.sh d, .sh (.int (g : Int)), .sh (.int (c : Int))]) (d := .int ((lF g c : Nat) : Int)) ?_).trans rfl
  have hm : ((lF g c : Nat) : Int) = ((g / Nat.gcd g c : Nat) : Int) * (c : Int) := by rw [← lF_eq]; exact Int.natCast_mul _ _
  have q1 := common_ok (g : Int) (c : Int) (by omega)
  rw [hI] at q1
  have q2 := fFdiv_i (g : Int) _ hd
  rw [hf] at q2
  have q3 := fMul_r ((g / Nat.gcd g c : Nat) : Int) (c : Int) (by omega)
  rw [← hm] at q3
  exact e2_ok (e2_ok (r := .sh (.int ((g / Nat.gcd g c : Nat) : Int))) rfl (eCall2_ok rfl rfl q1) q2) rfl q3
theorem lF_pos {g c : Nat} (h0 : 0 < g) (h : 0 < c) : 0 < lF g c := Nat.lcm_pos h0 h
theorem lF_le {g c : Nat} (h0 : 0 < g) (h : 0 < c) : lF g c ≤ g * c := Nat.le_of_dvd (Nat.mul_pos h0 h) (Nat.lcm_dvd (Nat.dvd_mul_right _ _) (Nat.dvd_mul_left _ _))
def prodN (g : Nat) (row : List Nat) : Nat := row.foldl (· * ·) g
theorem prod_pos : ∀ (row : List Nat) (g : Nat), 0 < g → (∀ c ∈ row, 0 < c) → g ≤ prodN g row ∧ 0 < prodN g row
  | [], g, h, _ => ⟨Nat.le_refl _, h⟩
  | c :: row, g, h, hr => by
    have hc := hr c List.mem_cons_self
    have := prod_pos row (g * c) (Nat.mul_pos h hc) fun x hx => hr x (List.mem_cons_of_mem _ hx)
    show g ≤ prodN (g * c) row ∧ _
    exact ⟨Nat.le_trans (Nat.le_mul_of_pos_right _ hc) this.1, this.2⟩
theorem prod_mono : ∀ (row : List Nat) (g h : Nat), g ≤ h → prodN g row ≤ prodN h row
  | [], _, _, q => q
  | c :: row, g, h, q => prod_mono row (g * c) (h * c) (Nat.mul_le_mul_right _ q)
theorem lm_loop (d : D) : ∀ (row : List Nat) (g : Nat) (z : Sl), 0 < g → (∀ c ∈ row, 0 < c ∧ c < 1000000000) → prodN g row < 1000000000 → ∃ z', forL (gNm 2) lmBody (row.map fun c : Nat => D.int (c : Int)) [.sh d, .sh (.int (g : Int)), z] = .ok .nx [.sh d, .sh (.int ((row.foldl lF g : Nat) : Int)), z']
  | [], g, z, _, _, _ => ⟨z, rfl⟩
  | c :: row, g, z, h0, h, hb => by
    obtain ⟨hc0, hc⟩ := h c List.mem_cons_self
    have hb' : prodN (g * c) row < 1000000000 := hb
    have hr : ∀ x ∈ row, 0 < x ∧ x < 1000000000 := fun x hx => h x (List.mem_cons_of_mem _ hx)
    have hg : g < 1000000000 := by
      have := (prod_pos row (g * c) (Nat.mul_pos h0 hc0) fun x hx => (hr x hx).1).1
      have := Nat.le_mul_of_pos_right g hc0
      omega
    have e := lm_turn d g c h0 hg hc0 hc
    obtain ⟨z', q⟩ := lm_loop d row (lF g c) (.sh (.int (c : Int))) (lF_pos h0 hc0) hr (Nat.lt_of_le_of_lt (prod_mono row _ _ (lF_le h0 hc0)) hb')
    refine ⟨z', ?_⟩
    rw [List.foldl_cons, ← q, List.map_cons]
    conv => lhs; unfold forL
    simp only [gNm, List.set_cons_succ, List.set_cons_zero, e, Out.bind]
theorem least_ok (row : List Nat) (h : ∀ c ∈ row, 0 < c ∧ c < 1000000000) (hb : prodN 1 row < 1000000000) : f_least_multiple [.tup (row.map fun c : Nat => D.int (c : Int))] = .ok (.sh (.int ((row.foldl lF 1 : Nat) : Int))) := by
  obtain ⟨z', q⟩ := lm_loop (.tup (row.map fun c : Nat => D.int (c : Int))) row 1 .un (by decide) h hb
  have e : m_least_multiple (ev0 3 [.tup (row.map fun c : Nat => D.int (c : Int))]) = (sSeq (sFor (iV itS (eV 0)) (gNm 2) lmBody) (sRet (eGive 1))) [.sh (.tup (row.map fun c : Nat => D.int (c : Int))), .sh (.int ((1 : Nat) : Int)), .un] := rfl
  refine mFn_rt (E := [.sh (.tup (row.map fun c : Nat => D.int (c : Int))), .sh (.int ((row.foldl lF 1 : Nat) : Int)), z']) ?_
  rw [e, seq_nx ((sFor_ok (by simp only [sSeq, sAsg, sAsgG, sPar, sIf, sRet, sFor, sNx, sDrop, goNx, gNm, gTp, gsCons, gsNil, eCall, eCallB, goF, goB, ownAt, Sl.own, aCons, aNil, eV, eC, e1, e2, eN, eIf, liftO, Out.bind, RV.d, iV, iN, tV, truD, MM.tOr, MM.tAnd, MM.tNot, t2, tTrue, eIxO, eLenO, hold, putH, sSetIx, eGive, Option.bind, List.getElem?_cons_succ, List.getElem?_cons_zero, List.set_cons_succ, List.set_cons_zero, List.length_cons, List.length_nil, itS_tup])).trans q)]
  rfl
theorem lcm_dvd_iff (m : Nat) : ∀ (row : List Nat) (g : Nat), row.foldl lF g ∣ m ↔ g ∣ m ∧ ∀ c ∈ row, c ∣ m
  | [], g => by simp
  | c :: row, g => by
    rw [List.foldl_cons, lcm_dvd_iff m row (lF g c)]
    have : lF g c ∣ m ↔ g ∣ m ∧ c ∣ m := ⟨fun h => ⟨Nat.dvd_trans (Nat.dvd_lcm_left _ _) h, Nat.dvd_trans (Nat.dvd_lcm_right _ _) h⟩, fun h => Nat.lcm_dvd h.1 h.2⟩
    rw [this]
    constructor
    · rintro ⟨⟨h1, h2⟩, h3⟩
      exact ⟨h1, fun x hx => by
        rcases List.mem_cons.mp hx with rfl | hx
        · exact h2
        · exact h3 x hx⟩
    · rintro ⟨h1, h2⟩
      exact ⟨⟨h1, h2 c List.mem_cons_self⟩, fun x hx => h2 x (List.mem_cons_of_mem _ hx)⟩
theorem lcm_le : ∀ (row : List Nat) (g : Nat), 0 < g → (∀ c ∈ row, 0 < c) → 0 < row.foldl lF g ∧ row.foldl lF g ≤ prodN g row
  | [], g, h, _ => ⟨h, Nat.le_refl _⟩
  | c :: row, g, h0, h => by
    have hc := h c List.mem_cons_self
    have := lcm_le row (lF g c) (lF_pos h0 hc) fun x hx => h x (List.mem_cons_of_mem _ hx)
    exact ⟨this.1, Nat.le_trans this.2 (prod_mono row _ _ (lF_le h0 hc))⟩
theorem filter_first {p : Nat → Bool} : ∀ (k N : Nat), k < N → p k = true → (∀ j, j < k → p j = false) → ∃ r, (List.range N).filter p = k :: r := by
  intro k N h1 h2 h3
  have e : List.range N = List.range k ++ (List.range (N - k)).map (k + ·) := by
    rw [← List.range_add, Nat.add_sub_cancel' (Nat.le_of_lt h1)]
  rw [e, List.filter_append]
  have e1 : (List.range k).filter p = [] := List.filter_eq_nil_iff.mpr fun j hj => by rw [h3 j (List.mem_range.mp hj)]; exact Bool.false_ne_true
  obtain ⟨n, hn⟩ : ∃ n, N - k = n + 1 := ⟨N - k - 1, by omega⟩
  rw [e1, hn, List.range_succ_eq_map, List.map_cons, List.nil_append, List.filter_cons_of_pos (by simpa using h2)]
  exact ⟨_, rfl⟩
end K00

/-! k00, plain: the law's statements, one by one. -/
namespace K00
open PySem PySem.Spec PyProof.Rows L2 MM
def sI (i : Int) : Sl := .sh (.int i)
def sT (s t : Int) : Sl := .ow (.lst [.int s, .int t])
theorem iV_ok {f : D → Option (List D)} {m : M RV} {E E1 : Ev} {r : RV} {ds : List D} (h : m E = .ok r E1) (hf : f r.d = some ds) : iV f m E = .ok ds E1 := by
  unfold iV
  rw [h]
  show (match f r.d with | some ds => Out.ok ds E1 | none => .stuck) = _
  rw [hf]
theorem iN_ok {f : List D → Option (List D)} {m : M (List D)} {E E1 : Ev} {ds R : List D} (h : m E = .ok ds E1) (hf : f ds = some R) : iN f m E = .ok R E1 := by
  unfold iN
  rw [h]
  show (match f ds with | some xs => Out.ok xs E1 | none => .stuck) = _
  rw [hf]
theorem eN2_ok {f : List D → Option RV} {ma mb : M RV} {E E1 E2 : Ev} {ra rb R : RV} (ha : ma E = .ok ra E1) (hb : mb E1 = .ok rb E2) (hf : f [ra.d, rb.d] = some R) : eN f (aCons ma (aCons mb aNil)) E = .ok R E2 := by
  unfold eN aCons aNil
  rw [ha]
  show (Out.bind (Out.bind (Out.bind (mb E1) _) _) _) = _
  rw [hb]
  show liftO (f [ra.d, rb.d]) E2 = _
  rw [hf]
  rfl
theorem sPar_ok {i j : Nat} {ma mb : M RV} {E E1 E2 : Ev} {ra rb : RV} (ha : ma E = .ok ra E1) (hb : mb E1 = .ok rb E2) : sPar i j (aCons ma (aCons mb aNil)) E = .ok .nx ((E2.set i (.sh ra.d)).set j (.sh rb.d)) := by
  unfold sPar aCons aNil
  rw [ha]
  show (Out.bind (Out.bind (Out.bind (mb E1) _) _) _) = _
  rw [hb]
  rfl
theorem sAsgG_ok {g : Tgt} {m : M RV} {E E1 E2 : Ev} {r : RV} (h : m E = .ok r E1) (hg : g r.d E1 = some E2) : sAsgG g m E = .ok .nx E2 := by
  unfold sAsgG
  rw [h]
  show goNx (g r.d E1) = _
  rw [hg]
  rfl
theorem sAsgD {i : Nat} {m : M RV} {E E1 E2 : Ev} {d : D} (h : m E = .ok (.sh d) E1) (h2 : E1.set i (.sh d) = E2) : sAsg i m E = .ok .nx E2 := (sAsg_ok h).trans (by rw [h2])
theorem sAsgF {i : Nat} {m : M RV} {E E1 E2 : Ev} {d : D} (h : m E = .ok (.fr d) E1) (h2 : E1.set i (.ow d) = E2) : sAsg i m E = .ok .nx E2 := (sAsg_fr h).trans (by rw [h2])
theorem sIfF {mt : M Bool} {ma mb : M Fl} {E E1 : Ev} {R : Out Fl} (h : mt E = .ok false E1) (h2 : mb E1 = R) : sIf mt ma mb E = R := (sIf_f h).trans h2
theorem tOrF {ta tb : M Bool} {E E1 : Ev} {R : Out Bool} (h : ta E = .ok false E1) (h2 : tb E1 = R) : MM.tOr ta tb E = R := (tOr_f h).trans h2
theorem sForD {mi : M (List D)} {g : Tgt} {body : M Fl} {E E1 : Ev} {ds : List D} {R : Out Fl} (h : mi E = .ok ds E1) (h2 : forL g body ds E1 = R) : sFor mi g body E = R := (sFor_ok h).trans h2
theorem eIf_t {mt : M Bool} {ma mb : M RV} {E E1 : Ev} {R : Out RV} (h : mt E = .ok true E1) (h2 : ma E1 = R) : eIf mt ma mb E = R := by
  unfold eIf
  rw [h]
  exact h2
theorem eIf_f {mt : M Bool} {ma mb : M RV} {E E1 : Ev} {R : Out RV} (h : mt E = .ok false E1) (h2 : mb E1 = R) : eIf mt ma mb E = R := by
  unfold eIf
  rw [h]
  exact h2
theorem tOr_t {ta tb : M Bool} {E E1 : Ev} (h : ta E = .ok true E1) : MM.tOr ta tb E = .ok true E1 := by
  unfold MM.tOr
  rw [h]
  rfl
theorem tAnd_f {ta tb : M Bool} {E E1 : Ev} (h : ta E = .ok false E1) : MM.tAnd ta tb E = .ok false E1 := by
  unfold MM.tAnd
  rw [h]
  rfl
theorem tAnd_t {ta tb : M Bool} {E E1 : Ev} {R : Out Bool} (h : ta E = .ok true E1) (h2 : tb E1 = R) : MM.tAnd ta tb E = R := by
  unfold MM.tAnd
  rw [h]
  exact h2
theorem t2_ok {g : D → D → Option Bool} {ma mb : M RV} {E E1 E2 : Ev} {ra rb : RV} {k : Bool} (ha : ma E = .ok ra E1) (hb : mb E1 = .ok rb E2) (hf : g ra.d rb.d = some k) : t2 g ma mb E = .ok k E2 := by
  unfold t2
  rw [ha]
  show (Out.bind (mb E1) _) = _
  rw [hb]
  show (match g ra.d rb.d with | some k => Out.ok k E2 | none => .stuck) = _
  rw [hf]
theorem fTup2 (a b : D) : fTup [a, b] = some (.sh (.tup [a, b])) := by
  show (if [a, b].length ≤ sizeLine then some (RV.sh (.tup [a, b])) else none) = _
  exact if_pos (show 2 ≤ sizeLine by decide)
theorem fIx_lst (xs : List D) (k : Nat) (d : D) (h : xs[k]? = some d) : fIx (.lst xs) (.int (k : Int)) = some (.sh d) := by
  show (atI xs (k : Int)).map RV.sh = _
  unfold atI
  have hk := (List.getElem?_eq_some_iff.mp h).1
  rw [ixN_n _ _ hk]
  show (xs[k]?).map RV.sh = _
  rw [h]
  rfl
theorem fIx_lst0 (x : D) (xs : List D) : fIx (.lst (x :: xs)) (.int 0) = some (.sh x) := fIx_lst _ 0 x rfl
/-- x % d == 0 -/
theorem md_ok {mx md : M RV} {E : Ev} {x d : Int} (hx : mx E = .ok (.sh (.int x)) E) (hd : md E = .ok (.sh (.int d)) E) (h : d ≠ 0) : t2 cEq (e2 fMod (eN fInt1 (aCons mx aNil)) md) (eC (.int 0)) E = .ok (x.fmod d == 0) E :=
  t2_ok (e2_ok (eN1_ok hx (fInt1_i x)) hd (fMod_i x d h)) rfl (cEq_int _ _)
/-! ### draws -/
theorem draw_ok {ma : M RV} {E : Ev} {s t m : Int} {r : RV} (h1 : E[1]? = some (sT s t)) (hm : ma E = .ok r E) (hr : r.d = .int m) (h0 : 0 < m) (h2 : m < 1000000000) :
    ∃ v s' t' : Int, (0 ≤ v ∧ v < m) ∧ eCallB 2 1 f__law_take (aCons ma aNil) E = .ok (.sh (.int v)) (E.set 1 (sT s' t')) := by
  refine ⟨tkv s t m, tks s m, tkt s t, tkv_b s t m h0, ?_⟩
  unfold sT at h1 ⊢
  unfold eCallB ownAt aCons aNil
  rw [h1]
  show (if true = true then _ else _) = _
  rw [if_pos rfl, hm]
  show (if [r.d].length + 1 = 2 then (match E[1]? with | some (.ow d) => goB 1 .ow (f__law_take d [r.d]) E | some (.bo d) => goB 1 .bo (f__law_take d [r.d]) E | _ => .stuck) else .stuck) = _
  rw [if_pos (show [r.d].length + 1 = 2 from rfl), h1, hr]
  show goB 1 Sl.ow (f__law_take (.lst [.int s, .int t]) [.int m]) E = _
  rw [take_ok s t m h0 h2]
  rfl
theorem draws_lc {g : Tgt} {mt : M Bool} {me : M RV} {vs : List Nat} (E : Int → Int → Ev) (mk : Nat → D) (P : Int → Prop)
    (step : ∀ k s t, ∃ E1 r E3 v s' t', g (mk k) (E s t) = some E1 ∧ mt E1 = .ok true E1 ∧ me E1 = .ok r E3 ∧ r.d = .int v ∧ P v ∧ wipeE E3 vs = E s' t') : ∀ (L : List Nat) (acc : List D) (s t : Int), acc.length + L.length ≤ sizeLine →
    ∃ (ws : List Int) (s' t' : Int), lcL g mt me vs (L.map mk) (E s t) acc = .ok (acc ++ ws.map .int) (E s' t') ∧ ws.length = L.length ∧ ∀ v ∈ ws, P v
  | [], acc, s, t, _ => ⟨[], s, t, by rw [List.map_nil, List.map_nil, List.append_nil]; rfl, rfl, fun v h => absurd h (by simp)⟩
  | k :: L, acc, s, t, hl => by
    rw [List.length_cons] at hl
    obtain ⟨E1, r, E3, v, s1, t1, e1, e2, e3, e4, hp, e5⟩ := step k s t
    obtain ⟨ws, s', t', h1, h2, h3⟩ := draws_lc E mk P step L (acc ++ [.int v]) s1 t1 (by rw [List.length_append, List.length_singleton]; omega)
    refine ⟨v :: ws, s', t', ?_, by rw [List.length_cons, List.length_cons, h2], fun x hx => by
      rcases List.mem_cons.mp hx with rfl | hx
      · exact hp
      · exact h3 x hx⟩
    rw [List.map_cons]
    have e : lcL g mt me vs (mk k :: L.map mk) (E s t) acc = lcL g mt me vs (L.map mk) (E s1 t1) (acc ++ [.int v]) := by
      conv => lhs; unfold lcL
      simp only [e1, e2, e3, e4, e5, if_pos (show acc.length < sizeLine by omega)]
    rw [e, h1, List.append_assoc]
    rfl
section
variable (z0 : Sl)
theorem s0 (ns : List Int) : ∃ s t : Int, ml_0 (ev0 33 [.scr (ns.map .int)]) = .ok .nx ((Sl.sh (.scr (ns.map .int))) :: (sT s t) :: Sl.un :: Sl.un :: Sl.un :: Sl.un :: Sl.un :: Sl.un :: Sl.un :: Sl.un :: Sl.un :: Sl.un :: Sl.un :: Sl.un :: Sl.un :: Sl.un :: Sl.un :: Sl.un :: Sl.un :: Sl.un :: Sl.un :: Sl.un :: Sl.un :: Sl.un :: Sl.un :: Sl.un :: Sl.un :: Sl.un :: Sl.un :: Sl.un :: Sl.un :: Sl.un :: Sl.un :: []) := by
  obtain ⟨s, t, h⟩ := state_ok ns
  exact ⟨s, t, sAsgF (eCall1_ok (ra := .sh (.scr (ns.map .int))) rfl h) rfl⟩
theorem s1 (s t : Int) : ∃ a b s' t' : Int, (a.natAbs ≤ 1000 ∧ b.natAbs ≤ 1000) ∧ ml_1 (z0 :: (sT s t) :: Sl.un :: Sl.un :: Sl.un :: Sl.un :: Sl.un :: Sl.un :: Sl.un :: Sl.un :: Sl.un :: Sl.un :: Sl.un :: Sl.un :: Sl.un :: Sl.un :: Sl.un :: Sl.un :: Sl.un :: Sl.un :: Sl.un :: Sl.un :: Sl.un :: Sl.un :: Sl.un :: Sl.un :: Sl.un :: Sl.un :: Sl.un :: Sl.un :: Sl.un :: Sl.un :: Sl.un :: []) = .ok .nx (z0 :: (sT s' t') :: (sI a) :: (sI b) :: Sl.un :: Sl.un :: Sl.un :: Sl.un :: Sl.un :: Sl.un :: Sl.un :: Sl.un :: Sl.un :: Sl.un :: Sl.un :: Sl.un :: Sl.un :: Sl.un :: Sl.un :: Sl.un :: Sl.un :: Sl.un :: Sl.un :: Sl.un :: Sl.un :: Sl.un :: Sl.un :: Sl.un :: Sl.un :: Sl.un :: Sl.un :: Sl.un :: Sl.un :: []) := by
  obtain ⟨v, s1, t1, hv, q⟩ := draw_ok (ma := eC (.int 2001)) (E := (z0 :: (sT s t) :: Sl.un :: Sl.un :: Sl.un :: Sl.un :: Sl.un :: Sl.un :: Sl.un :: Sl.un :: Sl.un :: Sl.un :: Sl.un :: Sl.un :: Sl.un :: Sl.un :: Sl.un :: Sl.un :: Sl.un :: Sl.un :: Sl.un :: Sl.un :: Sl.un :: Sl.un :: Sl.un :: Sl.un :: Sl.un :: Sl.un :: Sl.un :: Sl.un :: Sl.un :: Sl.un :: Sl.un :: [])) (s := s) (t := t) rfl rfl rfl (by decide) (by decide)
  obtain ⟨u, s2, t2, hu, r⟩ := draw_ok (ma := eC (.int 2001)) (E := (z0 :: (sT s1 t1) :: Sl.un :: Sl.un :: Sl.un :: Sl.un :: Sl.un :: Sl.un :: Sl.un :: Sl.un :: Sl.un :: Sl.un :: Sl.un :: Sl.un :: Sl.un :: Sl.un :: Sl.un :: Sl.un :: Sl.un :: Sl.un :: Sl.un :: Sl.un :: Sl.un :: Sl.un :: Sl.un :: Sl.un :: Sl.un :: Sl.un :: Sl.un :: Sl.un :: Sl.un :: Sl.un :: Sl.un :: [])) (s := s1) (t := t1) rfl rfl rfl (by decide) (by decide)
  refine ⟨v - 1000, u - 1000, s2, t2, ⟨by omega, by omega⟩, sAsgG_ok (eN2_ok (e2_ok q rfl (fSub_i v 1000)) (e2_ok r rfl (fSub_i u 1000)) (fTup2 _ _)) rfl⟩
theorem s2 (s t a b : Int) : ∃ n s' t' : Int, (1 ≤ n ∧ n ≤ 300) ∧ ml_2 (z0 :: (sT s t) :: (sI a) :: (sI b) :: Sl.un :: Sl.un :: Sl.un :: Sl.un :: Sl.un :: Sl.un :: Sl.un :: Sl.un :: Sl.un :: Sl.un :: Sl.un :: Sl.un :: Sl.un :: Sl.un :: Sl.un :: Sl.un :: Sl.un :: Sl.un :: Sl.un :: Sl.un :: Sl.un :: Sl.un :: Sl.un :: Sl.un :: Sl.un :: Sl.un :: Sl.un :: Sl.un :: Sl.un :: []) = .ok .nx (z0 :: (sT s' t') :: (sI a) :: (sI b) :: (sI n) :: Sl.un :: Sl.un :: Sl.un :: Sl.un :: Sl.un :: Sl.un :: Sl.un :: Sl.un :: Sl.un :: Sl.un :: Sl.un :: Sl.un :: Sl.un :: Sl.un :: Sl.un :: Sl.un :: Sl.un :: Sl.un :: Sl.un :: Sl.un :: Sl.un :: Sl.un :: Sl.un :: Sl.un :: Sl.un :: Sl.un :: Sl.un :: Sl.un :: []) := by
  obtain ⟨v, s1, t1, hv, q⟩ := draw_ok (ma := eC (.int 300)) (E := (z0 :: (sT s t) :: (sI a) :: (sI b) :: Sl.un :: Sl.un :: Sl.un :: Sl.un :: Sl.un :: Sl.un :: Sl.un :: Sl.un :: Sl.un :: Sl.un :: Sl.un :: Sl.un :: Sl.un :: Sl.un :: Sl.un :: Sl.un :: Sl.un :: Sl.un :: Sl.un :: Sl.un :: Sl.un :: Sl.un :: Sl.un :: Sl.un :: Sl.un :: Sl.un :: Sl.un :: Sl.un :: Sl.un :: [])) (s := s) (t := t) rfl rfl rfl (by decide) (by decide)
  exact ⟨1 + v, s1, t1, ⟨by omega, by omega⟩, sAsgD (e2_ok rfl q (fAdd_i 1 v)) rfl⟩
theorem s3 (s t a b n : Int) (ha : a.natAbs ≤ 1000) (hb : b.natAbs ≤ 1000) : ml_3 (z0 :: (sT s t) :: (sI a) :: (sI b) :: (sI n) :: Sl.un :: Sl.un :: Sl.un :: Sl.un :: Sl.un :: Sl.un :: Sl.un :: Sl.un :: Sl.un :: Sl.un :: Sl.un :: Sl.un :: Sl.un :: Sl.un :: Sl.un :: Sl.un :: Sl.un :: Sl.un :: Sl.un :: Sl.un :: Sl.un :: Sl.un :: Sl.un :: Sl.un :: Sl.un :: Sl.un :: Sl.un :: Sl.un :: []) = .ok .nx (z0 :: (sT s t) :: (sI a) :: (sI b) :: (sI n) :: (Sl.ow (.lst ((bothL a b).map .int))) :: Sl.un :: Sl.un :: Sl.un :: Sl.un :: Sl.un :: Sl.un :: Sl.un :: Sl.un :: Sl.un :: Sl.un :: Sl.un :: Sl.un :: Sl.un :: Sl.un :: Sl.un :: Sl.un :: Sl.un :: Sl.un :: Sl.un :: Sl.un :: Sl.un :: Sl.un :: Sl.un :: Sl.un :: Sl.un :: Sl.un :: Sl.un :: []) := by
  have hN : 1 ≤ topN a b ∧ topN a b ≤ 1000 := by
    unfold topN mx3 absI
    split <;> split <;> split <;> split <;> omega
  have hz : ([] : List D).length + ((List.range (topN a b).toNat).filter (dvB (topN a b))).length ≤ sizeLine := by
    have := sizeBig
    have h1 := List.length_filter_le (dvB (topN a b)) (List.range (topN a b).toNat)
    rw [List.length_range] at h1
    rw [List.length_nil]
    omega
  have hL := lcL_run (g := gNm 28) (mt := MM.tAnd (t2 cEq (e2 fMod (eN fInt1 (aCons (eV 2) (aNil))) (eV 28)) (eC (.int 0))) (t2 cEq (e2 fMod (eN fInt1 (aCons (eV 3) (aNil))) (eV 28)) (eC (.int 0)))) (me := eV 28) (vs := [28]) (E := (z0 :: (sT s t) :: (sI a) :: (sI b) :: (sI n) :: Sl.un :: Sl.un :: Sl.un :: Sl.un :: Sl.un :: Sl.un :: Sl.un :: Sl.un :: Sl.un :: Sl.un :: Sl.un :: Sl.un :: Sl.un :: Sl.un :: Sl.un :: Sl.un :: Sl.un :: Sl.un :: Sl.un :: Sl.un :: Sl.un :: Sl.un :: Sl.un :: Sl.un :: Sl.un :: Sl.un :: Sl.un :: Sl.un :: [])) (fun k : Nat => D.int (1 + (k : Int))) (bothP a b) (fun k : Nat => D.int (1 + (k : Int))) ((List.range (topN a b).toNat).filter (dvB (topN a b))) [] (fun k _ => ?_) hz
  · have hl := lcdiv_ok (topN a b) hN.1 (by omega)
    refine sAsgF (eLc_ok (E1 := (z0 :: (sT s t) :: (sI a) :: (sI b) :: (sI n) :: Sl.un :: Sl.un :: Sl.un :: Sl.un :: Sl.un :: Sl.un :: Sl.un :: Sl.un :: Sl.un :: Sl.un :: Sl.un :: Sl.un :: Sl.un :: Sl.un :: Sl.un :: Sl.un :: Sl.un :: Sl.un :: Sl.un :: Sl.un :: Sl.un :: Sl.un :: Sl.un :: Sl.un :: Sl.un :: Sl.un :: Sl.un :: Sl.un :: [])) (iV_ok (eCall1_ok (ra := .sh (.int (topN a b))) (r := .fr (.lst ((divL (topN a b)).map .int))) rfl hl) (ds := (divL (topN a b)).map .int) rfl) (E2 := (z0 :: (sT s t) :: (sI a) :: (sI b) :: (sI n) :: Sl.un :: Sl.un :: Sl.un :: Sl.un :: Sl.un :: Sl.un :: Sl.un :: Sl.un :: Sl.un :: Sl.un :: Sl.un :: Sl.un :: Sl.un :: Sl.un :: Sl.un :: Sl.un :: Sl.un :: Sl.un :: Sl.un :: Sl.un :: Sl.un :: Sl.un :: Sl.un :: Sl.un :: Sl.un :: Sl.un :: Sl.un :: Sl.un :: [])) (acc := (bothL a b).map .int) ?_) rfl
    unfold divL bothL bothN
    rw [List.map_map, List.map_map]
    exact hL
  · have hk : (1 : Int) + (k : Int) ≠ 0 := by omega
    have m1 := md_ok (mx := eV 2) (md := eV 28) (E := (z0 :: (sT s t) :: (sI a) :: (sI b) :: (sI n) :: Sl.un :: Sl.un :: Sl.un :: Sl.un :: Sl.un :: Sl.un :: Sl.un :: Sl.un :: Sl.un :: Sl.un :: Sl.un :: Sl.un :: Sl.un :: Sl.un :: Sl.un :: Sl.un :: Sl.un :: Sl.un :: Sl.un :: Sl.un :: Sl.un :: Sl.un :: Sl.un :: (sI (1 + (k : Int))) :: Sl.un :: Sl.un :: Sl.un :: Sl.un :: [])) (x := a) (d := 1 + (k : Int)) rfl rfl hk
    have m2 := md_ok (mx := eV 3) (md := eV 28) (E := (z0 :: (sT s t) :: (sI a) :: (sI b) :: (sI n) :: Sl.un :: Sl.un :: Sl.un :: Sl.un :: Sl.un :: Sl.un :: Sl.un :: Sl.un :: Sl.un :: Sl.un :: Sl.un :: Sl.un :: Sl.un :: Sl.un :: Sl.un :: Sl.un :: Sl.un :: Sl.un :: Sl.un :: Sl.un :: Sl.un :: Sl.un :: Sl.un :: (sI (1 + (k : Int))) :: Sl.un :: Sl.un :: Sl.un :: Sl.un :: [])) (x := b) (d := 1 + (k : Int)) rfl rfl hk
    refine ⟨_, rfl, ?_⟩
    unfold bothP
    cases h1 : (a.fmod (1 + (k : Int)) == 0) with
    | false =>
      rw [h1] at m1
      exact .inr ⟨rfl, _, tAnd_f m1, rfl⟩
    | true =>
      rw [h1] at m1
      cases h2 : (b.fmod (1 + (k : Int)) == 0) with
      | false =>
        rw [h2] at m2
        exact .inr ⟨rfl, _, tAnd_t m1 m2, rfl⟩
      | true =>
        rw [h2] at m2
        exact .inl ⟨rfl, _, _, _, tAnd_t m1 m2, rfl, rfl, rfl⟩
theorem s4 (s t a b n : Int) (hb : b.natAbs ≤ 1000) : ∃ z5, ml_4 (z0 :: (sT s t) :: (sI a) :: (sI b) :: (sI n) :: (Sl.ow (.lst ((bothL a b).map .int))) :: Sl.un :: Sl.un :: Sl.un :: Sl.un :: Sl.un :: Sl.un :: Sl.un :: Sl.un :: Sl.un :: Sl.un :: Sl.un :: Sl.un :: Sl.un :: Sl.un :: Sl.un :: Sl.un :: Sl.un :: Sl.un :: Sl.un :: Sl.un :: Sl.un :: Sl.un :: Sl.un :: Sl.un :: Sl.un :: Sl.un :: Sl.un :: []) = .ok .nx (z0 :: (sT s t) :: (sI a) :: (sI b) :: (sI n) :: z5 :: Sl.un :: Sl.un :: Sl.un :: Sl.un :: Sl.un :: Sl.un :: Sl.un :: Sl.un :: Sl.un :: Sl.un :: Sl.un :: Sl.un :: Sl.un :: Sl.un :: Sl.un :: Sl.un :: Sl.un :: Sl.un :: Sl.un :: Sl.un :: Sl.un :: Sl.un :: Sl.un :: Sl.un :: Sl.un :: Sl.un :: Sl.un :: []) := by
  have c1 := common_ok a b (by omega)
  have c2 := common_ok 0 b (by omega)
  have q2 : f__law_same 11 [.int (Int.gcd 0 b : Nat), .int (absI b)] = .ok (.sh (.bl true)) := by
    rw [same_int 10]
    have : ((Int.gcd 0 b : Nat) : Int) = absI b := by
      have : Int.gcd 0 b = b.natAbs := Nat.gcd_zero_left _
      rw [this]
      unfold absI
      split <;> omega
    rw [this]
    simp
  have hs := fun z5 => tNotV_ok (eCall2_ok (f := f__law_same 11) (eCall2_ok (f := f_common) (ma := eC (.int 0)) (mb := eV 3) (E := (z0 :: (sT s t) :: (sI a) :: (sI b) :: (sI n) :: z5 :: Sl.un :: Sl.un :: Sl.un :: Sl.un :: Sl.un :: Sl.un :: Sl.un :: Sl.un :: Sl.un :: Sl.un :: Sl.un :: Sl.un :: Sl.un :: Sl.un :: Sl.un :: Sl.un :: Sl.un :: Sl.un :: Sl.un :: Sl.un :: Sl.un :: Sl.un :: Sl.un :: Sl.un :: Sl.un :: Sl.un :: Sl.un :: [])) rfl rfl c2) (eN1_ok (m := eV 3) rfl (fAbs_i b)) q2) rfl
  by_cases h : a = 0 ∧ b = 0
  · obtain ⟨ha, hb'⟩ := h
    subst ha hb'
    have q1 : f__law_same 11 [.int (Int.gcd 0 0 : Nat), .int 0] = .ok (.sh (.bl true)) := by
      rw [same_int 10]; rfl
    have x1 : eIf (MM.tAnd (t2 cEq (eV 2) (eC (.int 0))) (t2 cEq (eV 3) (eC (.int 0)))) (eC (.int 0)) (eN fMaxL (aCons (eV 5) (aNil))) (z0 :: (sT s t) :: (sI 0) :: (sI 0) :: (sI n) :: (Sl.ow (.lst ((bothL 0 0).map .int))) :: Sl.un :: Sl.un :: Sl.un :: Sl.un :: Sl.un :: Sl.un :: Sl.un :: Sl.un :: Sl.un :: Sl.un :: Sl.un :: Sl.un :: Sl.un :: Sl.un :: Sl.un :: Sl.un :: Sl.un :: Sl.un :: Sl.un :: Sl.un :: Sl.un :: Sl.un :: Sl.un :: Sl.un :: Sl.un :: Sl.un :: Sl.un :: []) = .ok (.sh (.int 0)) (z0 :: (sT s t) :: (sI 0) :: (sI 0) :: (sI n) :: (Sl.ow (.lst ((bothL 0 0).map .int))) :: Sl.un :: Sl.un :: Sl.un :: Sl.un :: Sl.un :: Sl.un :: Sl.un :: Sl.un :: Sl.un :: Sl.un :: Sl.un :: Sl.un :: Sl.un :: Sl.un :: Sl.un :: Sl.un :: Sl.un :: Sl.un :: Sl.un :: Sl.un :: Sl.un :: Sl.un :: Sl.un :: Sl.un :: Sl.un :: Sl.un :: Sl.un :: []) :=
      eIf_t (tAnd_t (t2_ok (k := true) rfl rfl (cEq_int 0 0)) (t2_ok (k := true) rfl rfl (cEq_int 0 0))) rfl
    exact ⟨_, sIfF (tOrF (tNotV_ok (eCall2_ok (eCall2_ok rfl rfl c1) x1 q1) rfl) (hs _)) rfl⟩
  · have q1 : f__law_same 11 [.int (Int.gcd a b : Nat), .int (Int.gcd a b : Nat)] = .ok (.sh (.bl true)) := by
      rw [same_int 10]; simp
    have hne : a ≠ 0 ∨ b ≠ 0 := by omega
    have mx : eN fMaxL (aCons (eV 5) (aNil)) (z0 :: (sT s t) :: (sI a) :: (sI b) :: (sI n) :: (Sl.ow (.lst ((bothL a b).map .int))) :: Sl.un :: Sl.un :: Sl.un :: Sl.un :: Sl.un :: Sl.un :: Sl.un :: Sl.un :: Sl.un :: Sl.un :: Sl.un :: Sl.un :: Sl.un :: Sl.un :: Sl.un :: Sl.un :: Sl.un :: Sl.un :: Sl.un :: Sl.un :: Sl.un :: Sl.un :: Sl.un :: Sl.un :: Sl.un :: Sl.un :: Sl.un :: []) = .ok (.sh (.int (Int.gcd a b : Nat))) (z0 :: (sT s t) :: (sI a) :: (sI b) :: (sI n) :: (Sl.sh (.lst ((bothL a b).map .int))) :: Sl.un :: Sl.un :: Sl.un :: Sl.un :: Sl.un :: Sl.un :: Sl.un :: Sl.un :: Sl.un :: Sl.un :: Sl.un :: Sl.un :: Sl.un :: Sl.un :: Sl.un :: Sl.un :: Sl.un :: Sl.un :: Sl.un :: Sl.un :: Sl.un :: Sl.un :: Sl.un :: Sl.un :: Sl.un :: Sl.un :: Sl.un :: []) := eN1_ok (r := .sh (.lst ((bothL a b).map .int))) rfl (both_max a b hne)
    have x1 : eIf (MM.tAnd (t2 cEq (eV 2) (eC (.int 0))) (t2 cEq (eV 3) (eC (.int 0)))) (eC (.int 0)) (eN fMaxL (aCons (eV 5) (aNil))) (z0 :: (sT s t) :: (sI a) :: (sI b) :: (sI n) :: (Sl.ow (.lst ((bothL a b).map .int))) :: Sl.un :: Sl.un :: Sl.un :: Sl.un :: Sl.un :: Sl.un :: Sl.un :: Sl.un :: Sl.un :: Sl.un :: Sl.un :: Sl.un :: Sl.un :: Sl.un :: Sl.un :: Sl.un :: Sl.un :: Sl.un :: Sl.un :: Sl.un :: Sl.un :: Sl.un :: Sl.un :: Sl.un :: Sl.un :: Sl.un :: Sl.un :: []) = .ok (.sh (.int (Int.gcd a b : Nat))) (z0 :: (sT s t) :: (sI a) :: (sI b) :: (sI n) :: (Sl.sh (.lst ((bothL a b).map .int))) :: Sl.un :: Sl.un :: Sl.un :: Sl.un :: Sl.un :: Sl.un :: Sl.un :: Sl.un :: Sl.un :: Sl.un :: Sl.un :: Sl.un :: Sl.un :: Sl.un :: Sl.un :: Sl.un :: Sl.un :: Sl.un :: Sl.un :: Sl.un :: Sl.un :: Sl.un :: Sl.un :: Sl.un :: Sl.un :: Sl.un :: Sl.un :: []) := by
      refine eIf_f (E1 := (z0 :: (sT s t) :: (sI a) :: (sI b) :: (sI n) :: (Sl.ow (.lst ((bothL a b).map .int))) :: Sl.un :: Sl.un :: Sl.un :: Sl.un :: Sl.un :: Sl.un :: Sl.un :: Sl.un :: Sl.un :: Sl.un :: Sl.un :: Sl.un :: Sl.un :: Sl.un :: Sl.un :: Sl.un :: Sl.un :: Sl.un :: Sl.un :: Sl.un :: Sl.un :: Sl.un :: Sl.un :: Sl.un :: Sl.un :: Sl.un :: Sl.un :: [])) ?_ mx
      by_cases ha : a = 0
      · have hb' : b ≠ 0 := by omega
        subst ha
        refine tAnd_t (t2_ok (k := true) rfl rfl (cEq_int 0 0)) (t2_ok (k := false) (ra := .sh (.int b)) (rb := .sh (.int 0)) rfl rfl ?_)
        rw [show (RV.sh (D.int b)).d = D.int b from rfl, show (RV.sh (D.int 0)).d = D.int 0 from rfl, cEq_int, beq_eq_false_iff_ne.mpr hb']
      · refine tAnd_f (t2_ok (k := false) (ra := .sh (.int a)) (rb := .sh (.int 0)) rfl rfl ?_)
        rw [show (RV.sh (D.int a)).d = D.int a from rfl, show (RV.sh (D.int 0)).d = D.int 0 from rfl, cEq_int, beq_eq_false_iff_ne.mpr ha]
    exact ⟨_, sIfF (tOrF (tNotV_ok (eCall2_ok (eCall2_ok rfl rfl c1) x1 q1) rfl) (hs _)) rfl⟩
variable (z5 : Sl)
theorem s5 (s t a b n : Int) : ∃ (row : List Int) (s' t' : Int), (row.length ≤ 3 ∧ ∀ c ∈ row, c.natAbs ≤ 100) ∧ ml_5 (z0 :: (sT s t) :: (sI a) :: (sI b) :: (sI n) :: z5 :: Sl.un :: Sl.un :: Sl.un :: Sl.un :: Sl.un :: Sl.un :: Sl.un :: Sl.un :: Sl.un :: Sl.un :: Sl.un :: Sl.un :: Sl.un :: Sl.un :: Sl.un :: Sl.un :: Sl.un :: Sl.un :: Sl.un :: Sl.un :: Sl.un :: Sl.un :: Sl.un :: Sl.un :: Sl.un :: Sl.un :: Sl.un :: []) = .ok .nx (z0 :: (sT s' t') :: (sI a) :: (sI b) :: (sI n) :: z5 :: (Sl.sh (.tup (row.map .int))) :: Sl.un :: Sl.un :: Sl.un :: Sl.un :: Sl.un :: Sl.un :: Sl.un :: Sl.un :: Sl.un :: Sl.un :: Sl.un :: Sl.un :: Sl.un :: Sl.un :: Sl.un :: Sl.un :: Sl.un :: Sl.un :: Sl.un :: Sl.un :: Sl.un :: Sl.un :: Sl.un :: Sl.un :: Sl.un :: Sl.un :: []) := by
  obtain ⟨v, s1, t1, hv, q⟩ := draw_ok (ma := eC (.int 4)) (E := (z0 :: (sT s t) :: (sI a) :: (sI b) :: (sI n) :: z5 :: Sl.un :: Sl.un :: Sl.un :: Sl.un :: Sl.un :: Sl.un :: Sl.un :: Sl.un :: Sl.un :: Sl.un :: Sl.un :: Sl.un :: Sl.un :: Sl.un :: Sl.un :: Sl.un :: Sl.un :: Sl.un :: Sl.un :: Sl.un :: Sl.un :: Sl.un :: Sl.un :: Sl.un :: Sl.un :: Sl.un :: Sl.un :: [])) (s := s) (t := t) rfl rfl rfl (by decide) (by decide)
  have hsz := sizeBig
  obtain ⟨ws, s2, t2, h1, h2, h3⟩ := draws_lc (g := gNm 12) (mt := tTrue) (me := e2 fSub (eCallB 2 1 f__law_take (aCons (eC (.int 200)) (aNil))) (eC (.int 100))) (vs := [12]) (fun s t => (z0 :: (sT s t) :: (sI a) :: (sI b) :: (sI n) :: z5 :: Sl.un :: Sl.un :: Sl.un :: Sl.un :: Sl.un :: Sl.un :: Sl.un :: Sl.un :: Sl.un :: Sl.un :: Sl.un :: Sl.un :: Sl.un :: Sl.un :: Sl.un :: Sl.un :: Sl.un :: Sl.un :: Sl.un :: Sl.un :: Sl.un :: Sl.un :: Sl.un :: Sl.un :: Sl.un :: Sl.un :: Sl.un :: [])) (fun k : Nat => D.int (0 + (k : Int))) (fun c => c.natAbs ≤ 100) (fun k s t => by
    obtain ⟨u, s3, t3, hu, r⟩ := draw_ok (ma := eC (.int 200)) (E := (z0 :: (sT s t) :: (sI a) :: (sI b) :: (sI n) :: z5 :: Sl.un :: Sl.un :: Sl.un :: Sl.un :: Sl.un :: Sl.un :: (sI (0 + (k : Int))) :: Sl.un :: Sl.un :: Sl.un :: Sl.un :: Sl.un :: Sl.un :: Sl.un :: Sl.un :: Sl.un :: Sl.un :: Sl.un :: Sl.un :: Sl.un :: Sl.un :: Sl.un :: Sl.un :: Sl.un :: Sl.un :: Sl.un :: Sl.un :: [])) (s := s) (t := t) rfl rfl rfl (by decide) (by decide)
    exact ⟨_, _, _, u - 100, s3, t3, rfl, rfl, e2_ok r rfl (fSub_i u 100), rfl, by omega, rfl⟩) (List.range v.toNat) [] s1 t1 (by rw [List.length_nil, List.length_range]; omega)
  refine ⟨ws, s2, t2, ⟨by rw [h2, List.length_range]; omega, h3⟩, ?_⟩
  have hr : rg1 [.int v] = some (rgD 0 v.toNat) := by
    have := rg1_n v.toNat (by omega)
    rw [show ((v.toNat : Nat) : Int) = v by omega] at this
    exact this
  exact sAsgD (eN1_ok (eLc_ok (iN1_ok q hr) h1) (R := .sh (.tup (ws.map .int))) rfl) rfl
theorem s6 (s t a b n : Int) (row : List Int) : ml_6 (z0 :: (sT s t) :: (sI a) :: (sI b) :: (sI n) :: z5 :: (Sl.sh (.tup (row.map .int))) :: Sl.un :: Sl.un :: Sl.un :: Sl.un :: Sl.un :: Sl.un :: Sl.un :: Sl.un :: Sl.un :: Sl.un :: Sl.un :: Sl.un :: Sl.un :: Sl.un :: Sl.un :: Sl.un :: Sl.un :: Sl.un :: Sl.un :: Sl.un :: Sl.un :: Sl.un :: Sl.un :: Sl.un :: Sl.un :: Sl.un :: []) = .ok .nx (z0 :: (sT s t) :: (sI a) :: (sI b) :: (sI n) :: z5 :: (Sl.sh (.tup (row.map .int))) :: (sI (0 : Nat)) :: Sl.un :: Sl.un :: Sl.un :: Sl.un :: Sl.un :: Sl.un :: Sl.un :: Sl.un :: Sl.un :: Sl.un :: Sl.un :: Sl.un :: Sl.un :: Sl.un :: Sl.un :: Sl.un :: Sl.un :: Sl.un :: Sl.un :: Sl.un :: Sl.un :: Sl.un :: Sl.un :: Sl.un :: Sl.un :: []) := rfl
variable (z6 : Sl)
def gBody : M Fl := (sAsg 7 (eIf (MM.tOr (t2 cNe (eV 8) (eC (.int 0))) (t2 cNe (eV 7) (eC (.int 0)))) (eN fMaxL (aCons (e2 fAdd (eLc (iN rg2 (aCons (eC (.int 1)) (aCons (eC (.int 101)) (aNil)))) (gNm 28) (MM.tAnd (t2 cEq (e2 fMod (eN fInt1 (aCons (eV 8) (aNil))) (eV 28)) (eC (.int 0))) (MM.tOr (t2 cEq (eV 7) (eC (.int 0))) (t2 cEq (e2 fMod (eN fInt1 (aCons (eV 7) (aNil))) (eV 28)) (eC (.int 0))))) (eV 28) [28]) (eN fLst (aCons (eC (.int 0)) (aNil)))) (aNil))) (eC (.int 0))))
theorem fLst1 (a : D) : fLst [a] = some (.fr (.lst [a])) := by
  show (if [a].length ≤ sizeLine then some (RV.fr (.lst [a])) else none) = _
  exact if_pos (show 1 ≤ sizeLine by decide)
theorem cNe_ok (i : Int) {k : Bool} (h : (!(i == 0)) = k) : cNe (.int i) (.int 0) = some k := by rw [cNe_i, h]
theorem g_turn (s t a b n c : Int) (g : Nat) (hc : c.natAbs ≤ 100) (hg : g ≤ 100) : gBody (z0 :: (sT s t) :: (sI a) :: (sI b) :: (sI n) :: z5 :: z6 :: (sI (g : Nat)) :: (sI c) :: Sl.un :: Sl.un :: Sl.un :: Sl.un :: Sl.un :: Sl.un :: Sl.un :: Sl.un :: Sl.un :: Sl.un :: Sl.un :: Sl.un :: Sl.un :: Sl.un :: Sl.un :: Sl.un :: Sl.un :: Sl.un :: Sl.un :: Sl.un :: Sl.un :: Sl.un :: Sl.un :: Sl.un :: []) = .ok .nx (z0 :: (sT s t) :: (sI a) :: (sI b) :: (sI n) :: z5 :: z6 :: (sI (gF g c : Nat)) :: (sI c) :: Sl.un :: Sl.un :: Sl.un :: Sl.un :: Sl.un :: Sl.un :: Sl.un :: Sl.un :: Sl.un :: Sl.un :: Sl.un :: Sl.un :: Sl.un :: Sl.un :: Sl.un :: Sl.un :: Sl.un :: Sl.un :: Sl.un :: Sl.un :: Sl.un :: Sl.un :: Sl.un :: Sl.un :: []) ∧ gF g c ≤ 100 := by
  by_cases h : c = 0 ∧ g = 0
  · obtain ⟨rfl, rfl⟩ := h
    refine ⟨?_, by decide⟩
    refine sAsgD (d := .int 0) (eIf_f (E1 := (z0 :: (sT s t) :: (sI a) :: (sI b) :: (sI n) :: z5 :: z6 :: (sI (0 : Nat)) :: (sI 0) :: Sl.un :: Sl.un :: Sl.un :: Sl.un :: Sl.un :: Sl.un :: Sl.un :: Sl.un :: Sl.un :: Sl.un :: Sl.un :: Sl.un :: Sl.un :: Sl.un :: Sl.un :: Sl.un :: Sl.un :: Sl.un :: Sl.un :: Sl.un :: Sl.un :: Sl.un :: Sl.un :: Sl.un :: [])) (tOrF (t2_ok (k := false) rfl rfl (cNe_ok 0 rfl)) (t2_ok (k := false) rfl rfl (cNe_ok 0 rfl))) rfl) rfl
  · have hne : c ≠ 0 ∨ g ≠ 0 := by omega
    obtain ⟨m1, m2⟩ := g_max c g hc hg hne
    refine ⟨?_, m2⟩
    have hT : (MM.tOr (t2 cNe (eV 8) (eC (.int 0))) (t2 cNe (eV 7) (eC (.int 0)))) (z0 :: (sT s t) :: (sI a) :: (sI b) :: (sI n) :: z5 :: z6 :: (sI (g : Nat)) :: (sI c) :: Sl.un :: Sl.un :: Sl.un :: Sl.un :: Sl.un :: Sl.un :: Sl.un :: Sl.un :: Sl.un :: Sl.un :: Sl.un :: Sl.un :: Sl.un :: Sl.un :: Sl.un :: Sl.un :: Sl.un :: Sl.un :: Sl.un :: Sl.un :: Sl.un :: Sl.un :: Sl.un :: Sl.un :: []) = .ok true (z0 :: (sT s t) :: (sI a) :: (sI b) :: (sI n) :: z5 :: z6 :: (sI (g : Nat)) :: (sI c) :: Sl.un :: Sl.un :: Sl.un :: Sl.un :: Sl.un :: Sl.un :: Sl.un :: Sl.un :: Sl.un :: Sl.un :: Sl.un :: Sl.un :: Sl.un :: Sl.un :: Sl.un :: Sl.un :: Sl.un :: Sl.un :: Sl.un :: Sl.un :: Sl.un :: Sl.un :: Sl.un :: Sl.un :: []) := by
      by_cases hc0 : c = 0
      · have hg0 : (g : Int) ≠ 0 := by omega
        refine tOrF (t2_ok (k := false) (ra := .sh (.int c)) (rb := .sh (.int 0)) rfl rfl (cNe_ok c (by rw [hc0]; rfl))) (t2_ok (k := true) (ra := .sh (.int g)) (rb := .sh (.int 0)) rfl rfl (cNe_ok g (by rw [beq_eq_false_iff_ne.mpr hg0]; rfl)))
      · exact tOr_t (t2_ok (k := true) (ra := .sh (.int c)) (rb := .sh (.int 0)) rfl rfl (cNe_ok c (by rw [beq_eq_false_iff_ne.mpr hc0]; rfl)))
    have hz : ([] : List D).length + (List.range 100).length ≤ sizeLine := by
      have := sizeBig
      rw [List.length_nil, List.length_range]
      omega
    have hL := lcL_run (g := gNm 28) (mt := MM.tAnd (t2 cEq (e2 fMod (eN fInt1 (aCons (eV 8) (aNil))) (eV 28)) (eC (.int 0))) (MM.tOr (t2 cEq (eV 7) (eC (.int 0))) (t2 cEq (e2 fMod (eN fInt1 (aCons (eV 7) (aNil))) (eV 28)) (eC (.int 0))))) (me := eV 28) (vs := [28]) (E := (z0 :: (sT s t) :: (sI a) :: (sI b) :: (sI n) :: z5 :: z6 :: (sI (g : Nat)) :: (sI c) :: Sl.un :: Sl.un :: Sl.un :: Sl.un :: Sl.un :: Sl.un :: Sl.un :: Sl.un :: Sl.un :: Sl.un :: Sl.un :: Sl.un :: Sl.un :: Sl.un :: Sl.un :: Sl.un :: Sl.un :: Sl.un :: Sl.un :: Sl.un :: Sl.un :: Sl.un :: Sl.un :: Sl.un :: [])) (fun k : Nat => D.int (1 + (k : Int))) (gP c g) (fun k : Nat => D.int (1 + (k : Int))) (List.range 100) [] (fun k _ => ?_) hz
    · have ha : fAdd (.lst ((gL c g).map .int)) (.lst [.int 0]) = some (.fr (.lst ((gL c g).map .int ++ [.int 0]))) := by
        show (if ((gL c g).map D.int).length + [D.int 0].length ≤ sizeLine then _ else _) = _
        have h1 := List.length_filter_le (gP c g) (List.range 100)
        rw [List.length_range] at h1
        have := sizeBig
        rw [if_pos (by unfold gL; rw [List.length_map, List.length_map, List.length_singleton]; omega)]
      refine sAsgD (eIf_t hT (eN1_ok (e2_ok (ra := .fr (.lst ((gL c g).map .int))) (rb := .fr (.lst [.int 0])) (eLc_ok (E1 := (z0 :: (sT s t) :: (sI a) :: (sI b) :: (sI n) :: z5 :: z6 :: (sI (g : Nat)) :: (sI c) :: Sl.un :: Sl.un :: Sl.un :: Sl.un :: Sl.un :: Sl.un :: Sl.un :: Sl.un :: Sl.un :: Sl.un :: Sl.un :: Sl.un :: Sl.un :: Sl.un :: Sl.un :: Sl.un :: Sl.un :: Sl.un :: Sl.un :: Sl.un :: Sl.un :: Sl.un :: Sl.un :: Sl.un :: [])) (E2 := (z0 :: (sT s t) :: (sI a) :: (sI b) :: (sI n) :: z5 :: z6 :: (sI (g : Nat)) :: (sI c) :: Sl.un :: Sl.un :: Sl.un :: Sl.un :: Sl.un :: Sl.un :: Sl.un :: Sl.un :: Sl.un :: Sl.un :: Sl.un :: Sl.un :: Sl.un :: Sl.un :: Sl.un :: Sl.un :: Sl.un :: Sl.un :: Sl.un :: Sl.un :: Sl.un :: Sl.un :: Sl.un :: Sl.un :: [])) (ds := rgD 1 100) ?_ ?_) (eN1_ok (r := .sh (.int 0)) rfl (fLst1 _)) ha) m1)) rfl
      · rfl
      · unfold gL
        rw [List.map_map]
        exact hL
    · have hk : (1 : Int) + (k : Int) ≠ 0 := by omega
      have m1 := md_ok (mx := eV 8) (md := eV 28) (E := (z0 :: (sT s t) :: (sI a) :: (sI b) :: (sI n) :: z5 :: z6 :: (sI (g : Nat)) :: (sI c) :: Sl.un :: Sl.un :: Sl.un :: Sl.un :: Sl.un :: Sl.un :: Sl.un :: Sl.un :: Sl.un :: Sl.un :: Sl.un :: Sl.un :: Sl.un :: Sl.un :: Sl.un :: Sl.un :: Sl.un :: Sl.un :: Sl.un :: (sI (1 + (k : Int))) :: Sl.un :: Sl.un :: Sl.un :: Sl.un :: [])) (x := c) (d := 1 + (k : Int)) rfl rfl hk
      have m2 := md_ok (mx := eV 7) (md := eV 28) (E := (z0 :: (sT s t) :: (sI a) :: (sI b) :: (sI n) :: z5 :: z6 :: (sI (g : Nat)) :: (sI c) :: Sl.un :: Sl.un :: Sl.un :: Sl.un :: Sl.un :: Sl.un :: Sl.un :: Sl.un :: Sl.un :: Sl.un :: Sl.un :: Sl.un :: Sl.un :: Sl.un :: Sl.un :: Sl.un :: Sl.un :: Sl.un :: Sl.un :: (sI (1 + (k : Int))) :: Sl.un :: Sl.un :: Sl.un :: Sl.un :: [])) (x := (g : Int)) (d := 1 + (k : Int)) rfl rfl hk
      have m3 : t2 cEq (eV 7) (eC (.int 0)) (z0 :: (sT s t) :: (sI a) :: (sI b) :: (sI n) :: z5 :: z6 :: (sI (g : Nat)) :: (sI c) :: Sl.un :: Sl.un :: Sl.un :: Sl.un :: Sl.un :: Sl.un :: Sl.un :: Sl.un :: Sl.un :: Sl.un :: Sl.un :: Sl.un :: Sl.un :: Sl.un :: Sl.un :: Sl.un :: Sl.un :: Sl.un :: Sl.un :: (sI (1 + (k : Int))) :: Sl.un :: Sl.un :: Sl.un :: Sl.un :: []) = .ok ((g : Int) == 0) (z0 :: (sT s t) :: (sI a) :: (sI b) :: (sI n) :: z5 :: z6 :: (sI (g : Nat)) :: (sI c) :: Sl.un :: Sl.un :: Sl.un :: Sl.un :: Sl.un :: Sl.un :: Sl.un :: Sl.un :: Sl.un :: Sl.un :: Sl.un :: Sl.un :: Sl.un :: Sl.un :: Sl.un :: Sl.un :: Sl.un :: Sl.un :: Sl.un :: (sI (1 + (k : Int))) :: Sl.un :: Sl.un :: Sl.un :: Sl.un :: []) := t2_ok rfl rfl (cEq_int _ _)
      refine ⟨_, rfl, ?_⟩
      unfold gP
      cases h1 : (c.fmod (1 + (k : Int)) == 0) with
      | false =>
        rw [h1] at m1
        exact .inr ⟨rfl, _, tAnd_f m1, rfl⟩
      | true =>
        rw [h1] at m1
        cases h3 : ((g : Int) == 0) with
        | true =>
          rw [h3] at m3
          exact .inl ⟨rfl, _, _, _, tAnd_t m1 (tOr_t m3), rfl, rfl, rfl⟩
        | false =>
          rw [h3] at m3
          cases h2 : ((g : Int).fmod (1 + (k : Int)) == 0) with
          | false =>
            rw [h2] at m2
            exact .inr ⟨rfl, _, tAnd_t m1 (tOrF m3 m2), rfl⟩
          | true =>
            rw [h2] at m2
            exact .inl ⟨rfl, _, _, _, tAnd_t m1 (tOrF m3 m2), rfl, rfl, rfl⟩
theorem g_loop (s t a b n : Int) : ∀ (row : List Int) (g : Nat) (z8 : Sl), (∀ c ∈ row, c.natAbs ≤ 100) → g ≤ 100 → keepSh (some z8) = z8 → ∃ z8', keepSh (some z8') = z8' ∧ forL (gNm 8) gBody (row.map .int) (z0 :: (sT s t) :: (sI a) :: (sI b) :: (sI n) :: z5 :: z6 :: (sI (g : Nat)) :: z8 :: Sl.un :: Sl.un :: Sl.un :: Sl.un :: Sl.un :: Sl.un :: Sl.un :: Sl.un :: Sl.un :: Sl.un :: Sl.un :: Sl.un :: Sl.un :: Sl.un :: Sl.un :: Sl.un :: Sl.un :: Sl.un :: Sl.un :: Sl.un :: Sl.un :: Sl.un :: Sl.un :: Sl.un :: []) = .ok .nx (z0 :: (sT s t) :: (sI a) :: (sI b) :: (sI n) :: z5 :: z6 :: (sI (row.foldl gF g : Nat)) :: z8' :: Sl.un :: Sl.un :: Sl.un :: Sl.un :: Sl.un :: Sl.un :: Sl.un :: Sl.un :: Sl.un :: Sl.un :: Sl.un :: Sl.un :: Sl.un :: Sl.un :: Sl.un :: Sl.un :: Sl.un :: Sl.un :: Sl.un :: Sl.un :: Sl.un :: Sl.un :: Sl.un :: Sl.un :: [])
  | [], g, z8, _, _, h8 => ⟨z8, h8, rfl⟩
  | c :: row, g, z8, h, hg, h8 => by
    obtain ⟨e, hg'⟩ := g_turn z0 z5 z6 s t a b n c g (h c List.mem_cons_self) hg
    obtain ⟨z8', h9, q⟩ := g_loop s t a b n row (gF g c) (sI c) (fun x hx => h x (List.mem_cons_of_mem _ hx)) hg' rfl
    refine ⟨z8', h9, ?_⟩
    rw [List.foldl_cons, ← q, List.map_cons]
    conv => lhs; unfold forL
    have e2 : (gBody (z0 :: (sT s t) :: (sI a) :: (sI b) :: (sI n) :: z5 :: z6 :: (sI (g : Nat)) :: (sI c) :: Sl.un :: Sl.un :: Sl.un :: Sl.un :: Sl.un :: Sl.un :: Sl.un :: Sl.un :: Sl.un :: Sl.un :: Sl.un :: Sl.un :: Sl.un :: Sl.un :: Sl.un :: Sl.un :: Sl.un :: Sl.un :: Sl.un :: Sl.un :: Sl.un :: Sl.un :: Sl.un :: Sl.un :: [])).bind (fun f E2 => match f with
      | .nx => forL (gNm 8) gBody (row.map .int) E2
      | .ct => forL (gNm 8) gBody (row.map .int) E2
      | .bk => .ok .nx E2
      | .rt r => .ok (.rt r) E2) = forL (gNm 8) gBody (row.map .int) (z0 :: (sT s t) :: (sI a) :: (sI b) :: (sI n) :: z5 :: z6 :: (sI (gF g c : Nat)) :: (sI c) :: Sl.un :: Sl.un :: Sl.un :: Sl.un :: Sl.un :: Sl.un :: Sl.un :: Sl.un :: Sl.un :: Sl.un :: Sl.un :: Sl.un :: Sl.un :: Sl.un :: Sl.un :: Sl.un :: Sl.un :: Sl.un :: Sl.un :: Sl.un :: Sl.un :: Sl.un :: Sl.un :: Sl.un :: []) := by rw [e]; rfl
    exact e2
theorem s7 (s t a b n : Int) (row : List Int) (h : ∀ c ∈ row, c.natAbs ≤ 100) : ∃ z8, keepSh (some z8) = z8 ∧ ml_7 (z0 :: (sT s t) :: (sI a) :: (sI b) :: (sI n) :: z5 :: (Sl.sh (.tup (row.map .int))) :: (sI (0 : Nat)) :: (Sl.un) :: Sl.un :: Sl.un :: Sl.un :: Sl.un :: Sl.un :: Sl.un :: Sl.un :: Sl.un :: Sl.un :: Sl.un :: Sl.un :: Sl.un :: Sl.un :: Sl.un :: Sl.un :: Sl.un :: Sl.un :: Sl.un :: Sl.un :: Sl.un :: Sl.un :: Sl.un :: Sl.un :: Sl.un :: []) = .ok .nx (z0 :: (sT s t) :: (sI a) :: (sI b) :: (sI n) :: z5 :: (Sl.sh (.tup (row.map .int))) :: (sI (row.foldl gF 0 : Nat)) :: z8 :: Sl.un :: Sl.un :: Sl.un :: Sl.un :: Sl.un :: Sl.un :: Sl.un :: Sl.un :: Sl.un :: Sl.un :: Sl.un :: Sl.un :: Sl.un :: Sl.un :: Sl.un :: Sl.un :: Sl.un :: Sl.un :: Sl.un :: Sl.un :: Sl.un :: Sl.un :: Sl.un :: Sl.un :: []) := by
  obtain ⟨z8, h8, q⟩ := g_loop z0 z5 (.sh (.tup (row.map .int))) s t a b n row 0 .un h (by decide) rfl
  exact ⟨z8, h8, sForD (E1 := (z0 :: (sT s t) :: (sI a) :: (sI b) :: (sI n) :: z5 :: (Sl.sh (.tup (row.map .int))) :: (sI (0 : Nat)) :: (Sl.un) :: Sl.un :: Sl.un :: Sl.un :: Sl.un :: Sl.un :: Sl.un :: Sl.un :: Sl.un :: Sl.un :: Sl.un :: Sl.un :: Sl.un :: Sl.un :: Sl.un :: Sl.un :: Sl.un :: Sl.un :: Sl.un :: Sl.un :: Sl.un :: Sl.un :: Sl.un :: Sl.un :: Sl.un :: [])) (ds := row.map .int) rfl q⟩
variable (z8 : Sl)
theorem s8 (s t a b n : Int) (row : List Int) (h : ∀ c ∈ row, c.natAbs ≤ 100) : ml_8 (z0 :: (sT s t) :: (sI a) :: (sI b) :: (sI n) :: z5 :: (Sl.sh (.tup (row.map .int))) :: (sI (row.foldl gF 0 : Nat)) :: z8 :: Sl.un :: Sl.un :: Sl.un :: Sl.un :: Sl.un :: Sl.un :: Sl.un :: Sl.un :: Sl.un :: Sl.un :: Sl.un :: Sl.un :: Sl.un :: Sl.un :: Sl.un :: Sl.un :: Sl.un :: Sl.un :: Sl.un :: Sl.un :: Sl.un :: Sl.un :: Sl.un :: Sl.un :: []) = .ok .nx (z0 :: (sT s t) :: (sI a) :: (sI b) :: (sI n) :: z5 :: (Sl.sh (.tup (row.map .int))) :: (sI (row.foldl gF 0 : Nat)) :: z8 :: Sl.un :: Sl.un :: Sl.un :: Sl.un :: Sl.un :: Sl.un :: Sl.un :: Sl.un :: Sl.un :: Sl.un :: Sl.un :: Sl.un :: Sl.un :: Sl.un :: Sl.un :: Sl.un :: Sl.un :: Sl.un :: Sl.un :: Sl.un :: Sl.un :: Sl.un :: Sl.un :: Sl.un :: []) := by
  have c1 := common_of_ok row fun c hc => by have := h c hc; omega
  have q1 : f__law_same 11 [.int (row.foldl gF 0 : Nat), .int (row.foldl gF 0 : Nat)] = .ok (.sh (.bl true)) := by
    rw [same_int 10]; simp
  exact sIfF (tNotV_ok (eCall2_ok (eCall1_ok (ra := .sh (.tup (row.map .int))) rfl c1) (rb := .sh (.int (row.foldl gF 0 : Nat))) rfl q1) rfl) rfl
variable (z7 : Sl)
theorem s9 (s t a b n : Int) : ∃ (small : List Nat) (s' t' : Int), (small.length ≤ 3 ∧ ∀ c ∈ small, 0 < c ∧ c ≤ 12) ∧ ml_9 (z0 :: (sT s t) :: (sI a) :: (sI b) :: (sI n) :: z5 :: z6 :: z7 :: z8 :: Sl.un :: Sl.un :: Sl.un :: Sl.un :: Sl.un :: Sl.un :: Sl.un :: Sl.un :: Sl.un :: Sl.un :: Sl.un :: Sl.un :: Sl.un :: Sl.un :: Sl.un :: Sl.un :: Sl.un :: Sl.un :: Sl.un :: Sl.un :: Sl.un :: Sl.un :: Sl.un :: Sl.un :: []) = .ok .nx (z0 :: (sT s' t') :: (sI a) :: (sI b) :: (sI n) :: z5 :: z6 :: z7 :: z8 :: (Sl.sh (.tup (small.map fun c : Nat => D.int (c : Int)))) :: Sl.un :: Sl.un :: Sl.un :: Sl.un :: Sl.un :: Sl.un :: Sl.un :: Sl.un :: Sl.un :: Sl.un :: Sl.un :: Sl.un :: Sl.un :: Sl.un :: Sl.un :: Sl.un :: Sl.un :: Sl.un :: Sl.un :: Sl.un :: Sl.un :: Sl.un :: Sl.un :: []) := by
  obtain ⟨v, s1, t1, hv, q⟩ := draw_ok (ma := eC (.int 4)) (E := (z0 :: (sT s t) :: (sI a) :: (sI b) :: (sI n) :: z5 :: z6 :: z7 :: z8 :: Sl.un :: Sl.un :: Sl.un :: Sl.un :: Sl.un :: Sl.un :: Sl.un :: Sl.un :: Sl.un :: Sl.un :: Sl.un :: Sl.un :: Sl.un :: Sl.un :: Sl.un :: Sl.un :: Sl.un :: Sl.un :: Sl.un :: Sl.un :: Sl.un :: Sl.un :: Sl.un :: Sl.un :: [])) (s := s) (t := t) rfl rfl rfl (by decide) (by decide)
  have hsz := sizeBig
  obtain ⟨ws, s2, t2, h1, h2, h3⟩ := draws_lc (g := gNm 12) (mt := tTrue) (me := e2 fAdd (eC (.int 1)) (eCallB 2 1 f__law_take (aCons (eC (.int 12)) (aNil)))) (vs := [12]) (fun s t => (z0 :: (sT s t) :: (sI a) :: (sI b) :: (sI n) :: z5 :: z6 :: z7 :: z8 :: Sl.un :: Sl.un :: Sl.un :: Sl.un :: Sl.un :: Sl.un :: Sl.un :: Sl.un :: Sl.un :: Sl.un :: Sl.un :: Sl.un :: Sl.un :: Sl.un :: Sl.un :: Sl.un :: Sl.un :: Sl.un :: Sl.un :: Sl.un :: Sl.un :: Sl.un :: Sl.un :: Sl.un :: [])) (fun k : Nat => D.int (0 + (k : Int))) (fun c => 0 < c ∧ c ≤ 12) (fun k s t => by
    obtain ⟨u, s3, t3, hu, r⟩ := draw_ok (ma := eC (.int 12)) (E := (z0 :: (sT s t) :: (sI a) :: (sI b) :: (sI n) :: z5 :: z6 :: z7 :: z8 :: Sl.un :: Sl.un :: Sl.un :: (sI (0 + (k : Int))) :: Sl.un :: Sl.un :: Sl.un :: Sl.un :: Sl.un :: Sl.un :: Sl.un :: Sl.un :: Sl.un :: Sl.un :: Sl.un :: Sl.un :: Sl.un :: Sl.un :: Sl.un :: Sl.un :: Sl.un :: Sl.un :: Sl.un :: Sl.un :: [])) (s := s) (t := t) rfl rfl rfl (by decide) (by decide)
    exact ⟨_, _, _, 1 + u, s3, t3, rfl, rfl, e2_ok rfl r (fAdd_i 1 u), rfl, by omega, rfl⟩) (List.range v.toNat) [] s1 t1 (by rw [List.length_nil, List.length_range]; omega)
  have hr : rg1 [.int v] = some (rgD 0 v.toNat) := by
    have := rg1_n v.toNat (by omega)
    rw [show ((v.toNat : Nat) : Int) = v by omega] at this
    exact this
  have hw : ws.map D.int = (ws.map Int.toNat).map fun c : Nat => D.int (c : Int) := by
    rw [List.map_map]
    refine List.map_congr_left fun c hc => ?_
    have := h3 c hc
    show D.int c = D.int ((c.toNat : Nat) : Int)
    rw [show ((c.toNat : Nat) : Int) = c by omega]
  refine ⟨ws.map Int.toNat, s2, t2, ⟨by rw [List.length_map, h2, List.length_range]; omega, fun c hc => ?_⟩, ?_⟩
  · obtain ⟨x, hx, rfl⟩ := List.mem_map.mp hc
    have := h3 x hx
    omega
  · rw [← hw]
    exact sAsgD (eN1_ok (eLc_ok (iN1_ok q hr) h1) (R := .sh (.tup (ws.map .int))) rfl) rfl
variable (z9 : Sl)
def mBody : M Fl := (sAsg 10 (e2 fMul (eV 10) (eV 8)))
theorem m_loop (s t a b n : Int) : ∀ (row : List Nat) (g : Nat) (z8 : Sl), (∀ c ∈ row, 0 < c ∧ c ≤ 12) → keepSh (some z8) = z8 → ∃ z8', keepSh (some z8') = z8' ∧ forL (gNm 8) mBody (row.map fun c : Nat => D.int (c : Int)) (z0 :: (sT s t) :: (sI a) :: (sI b) :: (sI n) :: z5 :: z6 :: z7 :: z8 :: z9 :: (sI (g : Nat)) :: Sl.un :: Sl.un :: Sl.un :: Sl.un :: Sl.un :: Sl.un :: Sl.un :: Sl.un :: Sl.un :: Sl.un :: Sl.un :: Sl.un :: Sl.un :: Sl.un :: Sl.un :: Sl.un :: Sl.un :: Sl.un :: Sl.un :: Sl.un :: Sl.un :: Sl.un :: []) = .ok .nx (z0 :: (sT s t) :: (sI a) :: (sI b) :: (sI n) :: z5 :: z6 :: z7 :: z8' :: z9 :: (sI (prodN g row : Nat)) :: Sl.un :: Sl.un :: Sl.un :: Sl.un :: Sl.un :: Sl.un :: Sl.un :: Sl.un :: Sl.un :: Sl.un :: Sl.un :: Sl.un :: Sl.un :: Sl.un :: Sl.un :: Sl.un :: Sl.un :: Sl.un :: Sl.un :: Sl.un :: Sl.un :: Sl.un :: [])
  | [], g, z8, _, h8 => ⟨z8, h8, rfl⟩
  | c :: row, g, z8, h, h8 => by
    have hc := h c List.mem_cons_self
    have hm : fMul (.int (g : Int)) (.int (c : Int)) = some (.sh (.int ((g * c : Nat) : Int))) := by
      rw [fMul_r _ _ (by omega), Int.natCast_mul]
    have e : mBody (z0 :: (sT s t) :: (sI a) :: (sI b) :: (sI n) :: z5 :: z6 :: z7 :: (sI (c : Nat)) :: z9 :: (sI (g : Nat)) :: Sl.un :: Sl.un :: Sl.un :: Sl.un :: Sl.un :: Sl.un :: Sl.un :: Sl.un :: Sl.un :: Sl.un :: Sl.un :: Sl.un :: Sl.un :: Sl.un :: Sl.un :: Sl.un :: Sl.un :: Sl.un :: Sl.un :: Sl.un :: Sl.un :: Sl.un :: []) = .ok .nx (z0 :: (sT s t) :: (sI a) :: (sI b) :: (sI n) :: z5 :: z6 :: z7 :: (sI (c : Nat)) :: z9 :: (sI (g * c : Nat)) :: Sl.un :: Sl.un :: Sl.un :: Sl.un :: Sl.un :: Sl.un :: Sl.un :: Sl.un :: Sl.un :: Sl.un :: Sl.un :: Sl.un :: Sl.un :: Sl.un :: Sl.un :: Sl.un :: Sl.un :: Sl.un :: Sl.un :: Sl.un :: Sl.un :: Sl.un :: []) := sAsgD (e2_ok rfl rfl hm) rfl
    obtain ⟨z8', h9, q⟩ := m_loop s t a b n row (g * c) (sI (c : Nat)) (fun x hx => h x (List.mem_cons_of_mem _ hx)) rfl
    refine ⟨z8', h9, ?_⟩
    rw [show prodN g (c :: row) = prodN (g * c) row from rfl, ← q, List.map_cons]
    conv => lhs; unfold forL
    have e2 : (mBody (z0 :: (sT s t) :: (sI a) :: (sI b) :: (sI n) :: z5 :: z6 :: z7 :: (sI (c : Nat)) :: z9 :: (sI (g : Nat)) :: Sl.un :: Sl.un :: Sl.un :: Sl.un :: Sl.un :: Sl.un :: Sl.un :: Sl.un :: Sl.un :: Sl.un :: Sl.un :: Sl.un :: Sl.un :: Sl.un :: Sl.un :: Sl.un :: Sl.un :: Sl.un :: Sl.un :: Sl.un :: Sl.un :: Sl.un :: [])).bind (fun f E2 => match f with
      | .nx => forL (gNm 8) mBody (row.map fun c : Nat => D.int (c : Int)) E2
      | .ct => forL (gNm 8) mBody (row.map fun c : Nat => D.int (c : Int)) E2
      | .bk => .ok .nx E2
      | .rt r => .ok (.rt r) E2) = forL (gNm 8) mBody (row.map fun c : Nat => D.int (c : Int)) (z0 :: (sT s t) :: (sI a) :: (sI b) :: (sI n) :: z5 :: z6 :: z7 :: (sI (c : Nat)) :: z9 :: (sI (g * c : Nat)) :: Sl.un :: Sl.un :: Sl.un :: Sl.un :: Sl.un :: Sl.un :: Sl.un :: Sl.un :: Sl.un :: Sl.un :: Sl.un :: Sl.un :: Sl.un :: Sl.un :: Sl.un :: Sl.un :: Sl.un :: Sl.un :: Sl.un :: Sl.un :: Sl.un :: Sl.un :: []) := by rw [e]; rfl
    exact e2
theorem s10 (s t a b n : Int) (small : List Nat) : ml_10 (z0 :: (sT s t) :: (sI a) :: (sI b) :: (sI n) :: z5 :: z6 :: z7 :: z8 :: (Sl.sh (.tup (small.map fun c : Nat => D.int (c : Int)))) :: Sl.un :: Sl.un :: Sl.un :: Sl.un :: Sl.un :: Sl.un :: Sl.un :: Sl.un :: Sl.un :: Sl.un :: Sl.un :: Sl.un :: Sl.un :: Sl.un :: Sl.un :: Sl.un :: Sl.un :: Sl.un :: Sl.un :: Sl.un :: Sl.un :: Sl.un :: Sl.un :: []) = .ok .nx (z0 :: (sT s t) :: (sI a) :: (sI b) :: (sI n) :: z5 :: z6 :: z7 :: z8 :: (Sl.sh (.tup (small.map fun c : Nat => D.int (c : Int)))) :: (sI (1 : Nat)) :: Sl.un :: Sl.un :: Sl.un :: Sl.un :: Sl.un :: Sl.un :: Sl.un :: Sl.un :: Sl.un :: Sl.un :: Sl.un :: Sl.un :: Sl.un :: Sl.un :: Sl.un :: Sl.un :: Sl.un :: Sl.un :: Sl.un :: Sl.un :: Sl.un :: Sl.un :: []) := rfl
theorem s11 (s t a b n : Int) (small : List Nat) (h : ∀ c ∈ small, 0 < c ∧ c ≤ 12) (h8 : keepSh (some z8) = z8) : ∃ z8', keepSh (some z8') = z8' ∧ ml_11 (z0 :: (sT s t) :: (sI a) :: (sI b) :: (sI n) :: z5 :: z6 :: z7 :: z8 :: (Sl.sh (.tup (small.map fun c : Nat => D.int (c : Int)))) :: (sI (1 : Nat)) :: Sl.un :: Sl.un :: Sl.un :: Sl.un :: Sl.un :: Sl.un :: Sl.un :: Sl.un :: Sl.un :: Sl.un :: Sl.un :: Sl.un :: Sl.un :: Sl.un :: Sl.un :: Sl.un :: Sl.un :: Sl.un :: Sl.un :: Sl.un :: Sl.un :: Sl.un :: []) = .ok .nx (z0 :: (sT s t) :: (sI a) :: (sI b) :: (sI n) :: z5 :: z6 :: z7 :: z8' :: (Sl.sh (.tup (small.map fun c : Nat => D.int (c : Int)))) :: (sI (prodN 1 small : Nat)) :: Sl.un :: Sl.un :: Sl.un :: Sl.un :: Sl.un :: Sl.un :: Sl.un :: Sl.un :: Sl.un :: Sl.un :: Sl.un :: Sl.un :: Sl.un :: Sl.un :: Sl.un :: Sl.un :: Sl.un :: Sl.un :: Sl.un :: Sl.un :: Sl.un :: Sl.un :: []) := by
  obtain ⟨z8', h9, q⟩ := m_loop z0 z5 z6 z7 (.sh (.tup (small.map fun c : Nat => D.int (c : Int)))) s t a b n small 1 z8 h h8
  exact ⟨z8', h9, sForD (E1 := (z0 :: (sT s t) :: (sI a) :: (sI b) :: (sI n) :: z5 :: z6 :: z7 :: z8 :: (Sl.sh (.tup (small.map fun c : Nat => D.int (c : Int)))) :: (sI (1 : Nat)) :: Sl.un :: Sl.un :: Sl.un :: Sl.un :: Sl.un :: Sl.un :: Sl.un :: Sl.un :: Sl.un :: Sl.un :: Sl.un :: Sl.un :: Sl.un :: Sl.un :: Sl.un :: Sl.un :: Sl.un :: Sl.un :: Sl.un :: Sl.un :: Sl.un :: Sl.un :: [])) (ds := small.map fun c : Nat => D.int (c : Int)) rfl q⟩
def inB (m : Int) (c : Nat) : Bool := m.fmod (c : Int) == 0
theorem bls_map {α : Type} (q : α → Bool) : ∀ L : List α, bls (L.map fun x => D.bl (q x)) = some (L.map q)
  | [] => rfl
  | x :: L => by
    show (bls (L.map fun x => D.bl (q x))).map (q x :: ·) = _
    rw [bls_map q L]
    rfl
theorem all_map {α : Type} (q : α → Bool) (L : List α) : fAll [.lst (L.map fun x => D.bl (q x))] = some (.sh (.bl (L.all q))) := by
  show (bls (L.map fun x => D.bl (q x))).map (fun bs => RV.sh (.bl (bs.all id))) = _
  rw [bls_map, Option.map_some, List.all_map]
  rfl
theorem mult_in (s t a b n m : Int) (small : List Nat) (hs : small.length ≤ 3) (h : ∀ c ∈ small, 0 < c ∧ c ≤ 12) (h8 : keepSh (some z8) = z8) :
    tV (eN fAll (aCons (eLc (iV itS (eV 9)) (gNm 8) (tTrue) (e2 (cmp cEq) (e2 fMod (eN fInt1 (aCons (eV 15) (aNil))) (eV 8)) (eC (.int 0))) [8]) (aNil))) (z0 :: (sT s t) :: (sI a) :: (sI b) :: (sI n) :: z5 :: z6 :: z7 :: z8 :: (Sl.sh (.tup (small.map fun c : Nat => D.int (c : Int)))) :: (sI (prodN 1 small : Nat)) :: Sl.un :: Sl.un :: Sl.un :: Sl.un :: (sI m) :: Sl.un :: Sl.un :: Sl.un :: Sl.un :: Sl.un :: Sl.un :: Sl.un :: Sl.un :: Sl.un :: Sl.un :: Sl.un :: Sl.un :: Sl.un :: Sl.un :: Sl.un :: Sl.un :: Sl.un :: []) = .ok (small.all (inB m)) (z0 :: (sT s t) :: (sI a) :: (sI b) :: (sI n) :: z5 :: z6 :: z7 :: z8 :: (Sl.sh (.tup (small.map fun c : Nat => D.int (c : Int)))) :: (sI (prodN 1 small : Nat)) :: Sl.un :: Sl.un :: Sl.un :: Sl.un :: (sI m) :: Sl.un :: Sl.un :: Sl.un :: Sl.un :: Sl.un :: Sl.un :: Sl.un :: Sl.un :: Sl.un :: Sl.un :: Sl.un :: Sl.un :: Sl.un :: Sl.un :: Sl.un :: Sl.un :: Sl.un :: []) := by
  have hz : ([] : List D).length + small.length ≤ sizeLine := by
    have := sizeBig
    rw [List.length_nil]
    omega
  have hL := lcL_run (g := gNm 8) (mt := tTrue) (me := e2 (cmp cEq) (e2 fMod (eN fInt1 (aCons (eV 15) (aNil))) (eV 8)) (eC (.int 0))) (vs := [8]) (E := (z0 :: (sT s t) :: (sI a) :: (sI b) :: (sI n) :: z5 :: z6 :: z7 :: (Sl.un) :: (Sl.sh (.tup (small.map fun c : Nat => D.int (c : Int)))) :: (sI (prodN 1 small : Nat)) :: Sl.un :: Sl.un :: Sl.un :: Sl.un :: (sI m) :: Sl.un :: Sl.un :: Sl.un :: Sl.un :: Sl.un :: Sl.un :: Sl.un :: Sl.un :: Sl.un :: Sl.un :: Sl.un :: Sl.un :: Sl.un :: Sl.un :: Sl.un :: Sl.un :: Sl.un :: [])) (fun c : Nat => D.int (c : Int)) (fun _ => true) (fun c : Nat => D.bl (inB m c)) small [] (fun c hc => ?_) hz
  · rw [List.nil_append, List.filter_eq_self.mpr (fun _ _ => rfl)] at hL
    have e := eN1_ok (eLc_ok (mi := iV itS (eV 9)) (E := (z0 :: (sT s t) :: (sI a) :: (sI b) :: (sI n) :: z5 :: z6 :: z7 :: z8 :: (Sl.sh (.tup (small.map fun c : Nat => D.int (c : Int)))) :: (sI (prodN 1 small : Nat)) :: Sl.un :: Sl.un :: Sl.un :: Sl.un :: (sI m) :: Sl.un :: Sl.un :: Sl.un :: Sl.un :: Sl.un :: Sl.un :: Sl.un :: Sl.un :: Sl.un :: Sl.un :: Sl.un :: Sl.un :: Sl.un :: Sl.un :: Sl.un :: Sl.un :: Sl.un :: [])) (E1 := (z0 :: (sT s t) :: (sI a) :: (sI b) :: (sI n) :: z5 :: z6 :: z7 :: z8 :: (Sl.sh (.tup (small.map fun c : Nat => D.int (c : Int)))) :: (sI (prodN 1 small : Nat)) :: Sl.un :: Sl.un :: Sl.un :: Sl.un :: (sI m) :: Sl.un :: Sl.un :: Sl.un :: Sl.un :: Sl.un :: Sl.un :: Sl.un :: Sl.un :: Sl.un :: Sl.un :: Sl.un :: Sl.un :: Sl.un :: Sl.un :: Sl.un :: Sl.un :: Sl.un :: [])) rfl hL) (all_map (inB m) small)
    have er : restE (z0 :: (sT s t) :: (sI a) :: (sI b) :: (sI n) :: z5 :: z6 :: z7 :: z8 :: (Sl.sh (.tup (small.map fun c : Nat => D.int (c : Int)))) :: (sI (prodN 1 small : Nat)) :: Sl.un :: Sl.un :: Sl.un :: Sl.un :: (sI m) :: Sl.un :: Sl.un :: Sl.un :: Sl.un :: Sl.un :: Sl.un :: Sl.un :: Sl.un :: Sl.un :: Sl.un :: Sl.un :: Sl.un :: Sl.un :: Sl.un :: Sl.un :: Sl.un :: Sl.un :: []) [8] (z0 :: (sT s t) :: (sI a) :: (sI b) :: (sI n) :: z5 :: z6 :: z7 :: (Sl.un) :: (Sl.sh (.tup (small.map fun c : Nat => D.int (c : Int)))) :: (sI (prodN 1 small : Nat)) :: Sl.un :: Sl.un :: Sl.un :: Sl.un :: (sI m) :: Sl.un :: Sl.un :: Sl.un :: Sl.un :: Sl.un :: Sl.un :: Sl.un :: Sl.un :: Sl.un :: Sl.un :: Sl.un :: Sl.un :: Sl.un :: Sl.un :: Sl.un :: Sl.un :: Sl.un :: []) = (z0 :: (sT s t) :: (sI a) :: (sI b) :: (sI n) :: z5 :: z6 :: z7 :: z8 :: (Sl.sh (.tup (small.map fun c : Nat => D.int (c : Int)))) :: (sI (prodN 1 small : Nat)) :: Sl.un :: Sl.un :: Sl.un :: Sl.un :: (sI m) :: Sl.un :: Sl.un :: Sl.un :: Sl.un :: Sl.un :: Sl.un :: Sl.un :: Sl.un :: Sl.un :: Sl.un :: Sl.un :: Sl.un :: Sl.un :: Sl.un :: Sl.un :: Sl.un :: Sl.un :: []) := by
      show (z0 :: (sT s t) :: (sI a) :: (sI b) :: (sI n) :: z5 :: z6 :: z7 :: ((keepSh (some z8))) :: (Sl.sh (.tup (small.map fun c : Nat => D.int (c : Int)))) :: (sI (prodN 1 small : Nat)) :: Sl.un :: Sl.un :: Sl.un :: Sl.un :: (sI m) :: Sl.un :: Sl.un :: Sl.un :: Sl.un :: Sl.un :: Sl.un :: Sl.un :: Sl.un :: Sl.un :: Sl.un :: Sl.un :: Sl.un :: Sl.un :: Sl.un :: Sl.un :: Sl.un :: Sl.un :: []) = _
      rw [h8]
    rw [er] at e
    unfold tV
    rw [e]
    rfl
  · have hc := h c hc
    have hk : (c : Int) ≠ 0 := by omega
    refine ⟨_, rfl, .inl ⟨rfl, _, .sh (.bl (inB m c)), (z0 :: (sT s t) :: (sI a) :: (sI b) :: (sI n) :: z5 :: z6 :: z7 :: (sI (c : Nat)) :: (Sl.sh (.tup (small.map fun c : Nat => D.int (c : Int)))) :: (sI (prodN 1 small : Nat)) :: Sl.un :: Sl.un :: Sl.un :: Sl.un :: (sI m) :: Sl.un :: Sl.un :: Sl.un :: Sl.un :: Sl.un :: Sl.un :: Sl.un :: Sl.un :: Sl.un :: Sl.un :: Sl.un :: Sl.un :: Sl.un :: Sl.un :: Sl.un :: Sl.un :: Sl.un :: []), rfl, ?_, rfl, rfl⟩⟩
    refine e2_ok (ra := .sh (.int (m.fmod (c : Int)))) (rb := .sh (.int 0)) (e2_ok (ra := .sh (.int m)) (rb := .sh (.int (c : Int))) (eN1_ok (r := .sh (.int m)) rfl (fInt1_i m)) rfl (fMod_i m _ hk)) rfl ?_
    show (cEq (.int (m.fmod (c : Int))) (.int 0)).map _ = _
    rw [cEq_int]
    rfl
theorem s12 (s t a b n : Int) (small : List Nat) (hs : small.length ≤ 3) (h : ∀ c ∈ small, 0 < c ∧ c ≤ 12) (h8 : keepSh (some z8) = z8) (hp : prodN 1 small ≤ 1728) : ml_12 (z0 :: (sT s t) :: (sI a) :: (sI b) :: (sI n) :: z5 :: z6 :: z7 :: z8 :: (Sl.sh (.tup (small.map fun c : Nat => D.int (c : Int)))) :: (sI (prodN 1 small : Nat)) :: Sl.un :: Sl.un :: Sl.un :: Sl.un :: Sl.un :: Sl.un :: Sl.un :: Sl.un :: Sl.un :: Sl.un :: Sl.un :: Sl.un :: Sl.un :: Sl.un :: Sl.un :: Sl.un :: Sl.un :: Sl.un :: Sl.un :: Sl.un :: Sl.un :: Sl.un :: []) = .ok .nx (z0 :: (sT s t) :: (sI a) :: (sI b) :: (sI n) :: z5 :: z6 :: z7 :: z8 :: (Sl.sh (.tup (small.map fun c : Nat => D.int (c : Int)))) :: (sI (prodN 1 small : Nat)) :: Sl.un :: Sl.un :: Sl.un :: Sl.un :: Sl.un :: Sl.un :: Sl.un :: Sl.un :: Sl.un :: Sl.un :: Sl.un :: Sl.un :: Sl.un :: Sl.un :: Sl.un :: Sl.un :: Sl.un :: Sl.un :: Sl.un :: Sl.un :: Sl.un :: Sl.un :: []) := by
  have hz : ([] : List D).length + (List.range (prodN 1 small)).length ≤ sizeLine := by
    have := sizeBig
    rw [List.length_nil, List.length_range]
    omega
  have hL := lcL_run (g := gNm 15) (mt := tV (eN fAll (aCons (eLc (iV itS (eV 9)) (gNm 8) (tTrue) (e2 (cmp cEq) (e2 fMod (eN fInt1 (aCons (eV 15) (aNil))) (eV 8)) (eC (.int 0))) [8]) (aNil)))) (me := eV 15) (vs := [15]) (E := (z0 :: (sT s t) :: (sI a) :: (sI b) :: (sI n) :: z5 :: z6 :: z7 :: z8 :: (Sl.sh (.tup (small.map fun c : Nat => D.int (c : Int)))) :: (sI (prodN 1 small : Nat)) :: Sl.un :: Sl.un :: Sl.un :: Sl.un :: Sl.un :: Sl.un :: Sl.un :: Sl.un :: Sl.un :: Sl.un :: Sl.un :: Sl.un :: Sl.un :: Sl.un :: Sl.un :: Sl.un :: Sl.un :: Sl.un :: Sl.un :: Sl.un :: Sl.un :: Sl.un :: [])) (fun k : Nat => D.int (1 + (k : Int))) (fun k : Nat => small.all (inB (1 + (k : Int)))) (fun k : Nat => D.int (1 + (k : Int))) (List.range (prodN 1 small)) [] (fun k _ => ?_) hz
  · have hpos := lcm_le small 1 (by decide) fun c hc => (h c hc).1
    have hin : ∀ k : Nat, small.all (inB (1 + (k : Int))) = true ↔ small.foldl lF 1 ∣ (k + 1) := fun k => by
      rw [List.all_eq_true, lcm_dvd_iff]
      have : ∀ c : Nat, inB (1 + (k : Int)) c = true ↔ c ∣ (k + 1) := fun c => by
        unfold inB
        rw [beq_iff_eq, ← Int.dvd_iff_fmod_eq_zero, show (1 : Int) + (k : Int) = ((k + 1 : Nat) : Int) by omega]
        exact Int.natCast_dvd_natCast
      exact ⟨fun q => ⟨Nat.one_dvd _, fun c hc => (this c).mp (q c hc)⟩, fun q c hc => (this c).mpr (q.2 c hc)⟩
    obtain ⟨r, hr⟩ := filter_first (p := fun k : Nat => small.all (inB (1 + (k : Int)))) (small.foldl lF 1 - 1) (prodN 1 small) (by omega) ((hin _).mpr (by rw [show small.foldl lF 1 - 1 + 1 = small.foldl lF 1 by omega]; exact Nat.dvd_refl _)) fun j hj => by
      cases hq : small.all (inB (1 + (j : Int))) with
      | false => rfl
      | true =>
        have := Nat.le_of_dvd (by omega) ((hin j).mp hq)
        omega
    rw [hr, List.nil_append, List.map_cons, show (1 : Int) + ((small.foldl lF 1 - 1 : Nat) : Int) = ((small.foldl lF 1 : Nat) : Int) by omega] at hL
    have lm := least_ok small (fun c hc => by have := h c hc; omega) (by omega)
    have q1 : f__law_same 11 [.int (small.foldl lF 1 : Nat), .int (small.foldl lF 1 : Nat)] = .ok (.sh (.bl true)) := by
      rw [same_int 10]; simp
    have hrg : rg2 [.int 1, .int ((prodN 1 small : Nat) + 1)] = some (rgD 1 (prodN 1 small)) := by
      rw [rg2_n 1 _ (by omega) (by omega) (by omega) (by omega), show ((prodN 1 small : Nat) : Int) + 1 - 1 = (prodN 1 small : Nat) by omega, Int.toNat_natCast]
    have hi : iN rg2 (aCons (eC (.int 1)) (aCons (e2 fAdd (eV 10) (eC (.int 1))) (aNil))) (z0 :: (sT s t) :: (sI a) :: (sI b) :: (sI n) :: z5 :: z6 :: z7 :: z8 :: (Sl.sh (.tup (small.map fun c : Nat => D.int (c : Int)))) :: (sI (prodN 1 small : Nat)) :: Sl.un :: Sl.un :: Sl.un :: Sl.un :: Sl.un :: Sl.un :: Sl.un :: Sl.un :: Sl.un :: Sl.un :: Sl.un :: Sl.un :: Sl.un :: Sl.un :: Sl.un :: Sl.un :: Sl.un :: Sl.un :: Sl.un :: Sl.un :: Sl.un :: Sl.un :: []) = .ok (rgD 1 (prodN 1 small)) (z0 :: (sT s t) :: (sI a) :: (sI b) :: (sI n) :: z5 :: z6 :: z7 :: z8 :: (Sl.sh (.tup (small.map fun c : Nat => D.int (c : Int)))) :: (sI (prodN 1 small : Nat)) :: Sl.un :: Sl.un :: Sl.un :: Sl.un :: Sl.un :: Sl.un :: Sl.un :: Sl.un :: Sl.un :: Sl.un :: Sl.un :: Sl.un :: Sl.un :: Sl.un :: Sl.un :: Sl.un :: Sl.un :: Sl.un :: Sl.un :: Sl.un :: Sl.un :: Sl.un :: []) := by
      have : (aCons (eC (.int 1)) (aCons (e2 fAdd (eV 10) (eC (.int 1))) (aNil))) (z0 :: (sT s t) :: (sI a) :: (sI b) :: (sI n) :: z5 :: z6 :: z7 :: z8 :: (Sl.sh (.tup (small.map fun c : Nat => D.int (c : Int)))) :: (sI (prodN 1 small : Nat)) :: Sl.un :: Sl.un :: Sl.un :: Sl.un :: Sl.un :: Sl.un :: Sl.un :: Sl.un :: Sl.un :: Sl.un :: Sl.un :: Sl.un :: Sl.un :: Sl.un :: Sl.un :: Sl.un :: Sl.un :: Sl.un :: Sl.un :: Sl.un :: Sl.un :: Sl.un :: []) = .ok [.int 1, .int ((prodN 1 small : Nat) + 1)] (z0 :: (sT s t) :: (sI a) :: (sI b) :: (sI n) :: z5 :: z6 :: z7 :: z8 :: (Sl.sh (.tup (small.map fun c : Nat => D.int (c : Int)))) :: (sI (prodN 1 small : Nat)) :: Sl.un :: Sl.un :: Sl.un :: Sl.un :: Sl.un :: Sl.un :: Sl.un :: Sl.un :: Sl.un :: Sl.un :: Sl.un :: Sl.un :: Sl.un :: Sl.un :: Sl.un :: Sl.un :: Sl.un :: Sl.un :: Sl.un :: Sl.un :: Sl.un :: Sl.un :: []) := rfl
      exact iN_ok this hrg
    have hx : fIx (.lst (.int (small.foldl lF 1 : Nat) :: r.map fun k : Nat => D.int (1 + (k : Int)))) (.int 0) = some (.sh (.int (small.foldl lF 1 : Nat))) := fIx_lst0 _ _
    exact sIfF (tNotV_ok (eCall2_ok (eCall1_ok (ra := RV.sh (.tup (small.map fun c : Nat => D.int (c : Int)))) rfl lm) (e2_ok (eLc_ok hi hL) rfl hx) q1) rfl) rfl
  · have e := mult_in z0 z5 z6 z8 z7 s t a b n (1 + (k : Int)) small hs h h8
    refine ⟨_, rfl, ?_⟩
    cases hd : small.all (inB (1 + (k : Int))) with
    | true => exact .inl ⟨rfl, _, _, _, by rw [← hd]; exact e, rfl, rfl, rfl⟩
    | false => exact .inr ⟨rfl, _, by rw [← hd]; exact e, rfl⟩
end
end K00

/-! k00, plain: what is of finite range. -/
namespace K00
open PySem PySem.Spec PyProof.Rows L2 MM
theorem map_at {α β : Type} {f g : α → β} : ∀ {l : List α}, l.map f = l.map g → ∀ x ∈ l, f x = g x
  | [], _, x, h => absurd h (by simp)
  | y :: l, e, x, h => by
    rw [List.map_cons, List.map_cons] at e
    injection e with e1 e2
    rcases List.mem_cons.mp h with rfl | h
    · exact e1
    · exact map_at e2 x h
def ti (p : List Int) : D := .tup (p.map .int)
def shpL : Nat → List (List Int)
  | 0 => [[]]
  | 1 => [[1]]
  | 2 => [[2], [1, 1]]
  | 3 => [[3], [2, 1], [1, 1, 1]]
  | 4 => [[4], [3, 1], [2, 2], [2, 1, 1], [1, 1, 1, 1]]
  | 5 => [[5], [4, 1], [3, 2], [3, 1, 1], [2, 2, 1], [2, 1, 1, 1], [1, 1, 1, 1, 1]]
  | 6 => [[6], [5, 1], [4, 2], [4, 1, 1], [3, 3], [3, 2, 1], [3, 1, 1, 1], [2, 2, 2], [2, 2, 1, 1], [2, 1, 1, 1, 1], [1, 1, 1, 1, 1, 1]]
  | 7 => [[7], [6, 1], [5, 2], [5, 1, 1], [4, 3], [4, 2, 1], [4, 1, 1, 1], [3, 3, 1], [3, 2, 2], [3, 2, 1, 1], [3, 1, 1, 1, 1], [2, 2, 2, 1], [2, 2, 1, 1, 1], [2, 1, 1, 1, 1, 1], [1, 1, 1, 1, 1, 1, 1]]
  | 8 => [[8], [7, 1], [6, 2], [6, 1, 1], [5, 3], [5, 2, 1], [5, 1, 1, 1], [4, 4], [4, 3, 1], [4, 2, 2], [4, 2, 1, 1], [4, 1, 1, 1, 1], [3, 3, 2], [3, 3, 1, 1], [3, 2, 2, 1], [3, 2, 1, 1, 1], [3, 1, 1, 1, 1, 1], [2, 2, 2, 2], [2, 2, 2, 1, 1], [2, 2, 1, 1, 1, 1], [2, 1, 1, 1, 1, 1, 1], [1, 1, 1, 1, 1, 1, 1, 1]]
  | 9 => [[9], [8, 1], [7, 2], [7, 1, 1], [6, 3], [6, 2, 1], [6, 1, 1, 1], [5, 4], [5, 3, 1], [5, 2, 2], [5, 2, 1, 1], [5, 1, 1, 1, 1], [4, 4, 1], [4, 3, 2], [4, 3, 1, 1], [4, 2, 2, 1], [4, 2, 1, 1, 1], [4, 1, 1, 1, 1, 1], [3, 3, 3], [3, 3, 2, 1], [3, 3, 1, 1, 1], [3, 2, 2, 2], [3, 2, 2, 1, 1], [3, 2, 1, 1, 1, 1], [3, 1, 1, 1, 1, 1, 1], [2, 2, 2, 2, 1], [2, 2, 2, 1, 1, 1], [2, 2, 1, 1, 1, 1, 1], [2, 1, 1, 1, 1, 1, 1, 1], [1, 1, 1, 1, 1, 1, 1, 1, 1]]
  | _ => []
def moOk (k : Nat) : Bool := match f_mobius [.int (1 + (k : Int))], f__law_mobius [.int (1 + (k : Int))] with
  | .ok (.sh (.int i)), .ok (.sh (.int j)) => i == j
  | _, _ => false
theorem mo_0 : (List.range 10).all (fun k => moOk (0 + k)) = true := by decide +kernel
theorem mo_1 : (List.range 10).all (fun k => moOk (10 + k)) = true := by decide +kernel
theorem mo_2 : (List.range 10).all (fun k => moOk (20 + k)) = true := by decide +kernel
theorem mo_3 : (List.range 10).all (fun k => moOk (30 + k)) = true := by decide +kernel
theorem mo_4 : (List.range 10).all (fun k => moOk (40 + k)) = true := by decide +kernel
theorem mo_5 : (List.range 10).all (fun k => moOk (50 + k)) = true := by decide +kernel
theorem mo_6 : (List.range 10).all (fun k => moOk (60 + k)) = true := by decide +kernel
theorem mo_7 : (List.range 10).all (fun k => moOk (70 + k)) = true := by decide +kernel
theorem mo_8 : (List.range 10).all (fun k => moOk (80 + k)) = true := by decide +kernel
theorem mo_9 : (List.range 10).all (fun k => moOk (90 + k)) = true := by decide +kernel
theorem mo_10 : (List.range 10).all (fun k => moOk (100 + k)) = true := by decide +kernel
theorem mo_11 : (List.range 10).all (fun k => moOk (110 + k)) = true := by decide +kernel
theorem mo_12 : (List.range 10).all (fun k => moOk (120 + k)) = true := by decide +kernel
theorem mo_13 : (List.range 10).all (fun k => moOk (130 + k)) = true := by decide +kernel
theorem mo_14 : (List.range 10).all (fun k => moOk (140 + k)) = true := by decide +kernel
theorem mo_15 : (List.range 10).all (fun k => moOk (150 + k)) = true := by decide +kernel
theorem mo_16 : (List.range 10).all (fun k => moOk (160 + k)) = true := by decide +kernel
theorem mo_17 : (List.range 10).all (fun k => moOk (170 + k)) = true := by decide +kernel
theorem mo_18 : (List.range 10).all (fun k => moOk (180 + k)) = true := by decide +kernel
theorem mo_19 : (List.range 10).all (fun k => moOk (190 + k)) = true := by decide +kernel
theorem mo_20 : (List.range 10).all (fun k => moOk (200 + k)) = true := by decide +kernel
theorem mo_21 : (List.range 10).all (fun k => moOk (210 + k)) = true := by decide +kernel
theorem mo_22 : (List.range 10).all (fun k => moOk (220 + k)) = true := by decide +kernel
theorem mo_23 : (List.range 10).all (fun k => moOk (230 + k)) = true := by decide +kernel
theorem mo_24 : (List.range 10).all (fun k => moOk (240 + k)) = true := by decide +kernel
theorem mo_25 : (List.range 10).all (fun k => moOk (250 + k)) = true := by decide +kernel
theorem mo_26 : (List.range 10).all (fun k => moOk (260 + k)) = true := by decide +kernel
theorem mo_27 : (List.range 10).all (fun k => moOk (270 + k)) = true := by decide +kernel
theorem mo_28 : (List.range 10).all (fun k => moOk (280 + k)) = true := by decide +kernel
theorem mo_29 : (List.range 10).all (fun k => moOk (290 + k)) = true := by decide +kernel
theorem mo_step {lo k : Nat} (h : (List.range 10).all (fun k => moOk (lo + k)) = true) (h1 : lo ≤ k) (h2 : k < lo + 10) : moOk k = true := by
  have := List.all_eq_true.mp h (k - lo) (List.mem_range.mpr (by omega))
  rw [show lo + (k - lo) = k by omega] at this
  exact this
theorem mo_at (k : Nat) (h : k < 300) : moOk k = true := by
  by_cases h0 : k < 10
  · exact mo_step mo_0 (by omega) (by omega)
  by_cases h1 : k < 20
  · exact mo_step mo_1 (by omega) (by omega)
  by_cases h2 : k < 30
  · exact mo_step mo_2 (by omega) (by omega)
  by_cases h3 : k < 40
  · exact mo_step mo_3 (by omega) (by omega)
  by_cases h4 : k < 50
  · exact mo_step mo_4 (by omega) (by omega)
  by_cases h5 : k < 60
  · exact mo_step mo_5 (by omega) (by omega)
  by_cases h6 : k < 70
  · exact mo_step mo_6 (by omega) (by omega)
  by_cases h7 : k < 80
  · exact mo_step mo_7 (by omega) (by omega)
  by_cases h8 : k < 90
  · exact mo_step mo_8 (by omega) (by omega)
  by_cases h9 : k < 100
  · exact mo_step mo_9 (by omega) (by omega)
  by_cases h10 : k < 110
  · exact mo_step mo_10 (by omega) (by omega)
  by_cases h11 : k < 120
  · exact mo_step mo_11 (by omega) (by omega)
  by_cases h12 : k < 130
  · exact mo_step mo_12 (by omega) (by omega)
  by_cases h13 : k < 140
  · exact mo_step mo_13 (by omega) (by omega)
  by_cases h14 : k < 150
  · exact mo_step mo_14 (by omega) (by omega)
  by_cases h15 : k < 160
  · exact mo_step mo_15 (by omega) (by omega)
  by_cases h16 : k < 170
  · exact mo_step mo_16 (by omega) (by omega)
  by_cases h17 : k < 180
  · exact mo_step mo_17 (by omega) (by omega)
  by_cases h18 : k < 190
  · exact mo_step mo_18 (by omega) (by omega)
  by_cases h19 : k < 200
  · exact mo_step mo_19 (by omega) (by omega)
  by_cases h20 : k < 210
  · exact mo_step mo_20 (by omega) (by omega)
  by_cases h21 : k < 220
  · exact mo_step mo_21 (by omega) (by omega)
  by_cases h22 : k < 230
  · exact mo_step mo_22 (by omega) (by omega)
  by_cases h23 : k < 240
  · exact mo_step mo_23 (by omega) (by omega)
  by_cases h24 : k < 250
  · exact mo_step mo_24 (by omega) (by omega)
  by_cases h25 : k < 260
  · exact mo_step mo_25 (by omega) (by omega)
  by_cases h26 : k < 270
  · exact mo_step mo_26 (by omega) (by omega)
  by_cases h27 : k < 280
  · exact mo_step mo_27 (by omega) (by omega)
  by_cases h28 : k < 290
  · exact mo_step mo_28 (by omega) (by omega)
  exact mo_step mo_29 (by omega) (by omega)
theorem mobius_ok (k : Nat) (h : k < 300) : ∃ i : Int, f_mobius [.int (1 + (k : Int))] = .ok (.sh (.int i)) ∧ f__law_mobius [.int (1 + (k : Int))] = .ok (.sh (.int i)) := by
  have q := mo_at k h
  unfold moOk at q
  split at q
  · rename_i i j e1 e2
    have : i = j := by simpa using q
    subst this
    exact ⟨i, e1, e2⟩
  · cases q
section
variable (x0 x3 x4 x5 x6 x7 x8 x9 x10 x11 x13 x14 x16 x17 x18 x19 x20 x21 x23 x24 x25 x26 x27 : Sl) (d12 : D) (s t a : Int)
theorem t27 : ∀ m < 10, (sSeq ml_27 ml_28) (x0 :: (Sl.ow (.lst [.int s, .int t])) :: (Sl.sh (.int a)) :: x3 :: x4 :: x5 :: x6 :: x7 :: x8 :: x9 :: x10 :: x11 :: (Sl.sh d12) :: x13 :: x14 :: (Sl.sh (.int (m : Nat))) :: x16 :: x17 :: x18 :: x19 :: x20 :: x21 :: Sl.un :: Sl.un :: Sl.un :: Sl.un :: Sl.un :: Sl.un :: Sl.un :: Sl.un :: Sl.un :: Sl.un :: Sl.un :: []) = .ok .nx (x0 :: (Sl.ow (.lst [.int s, .int t])) :: (Sl.sh (.int a)) :: x3 :: x4 :: x5 :: x6 :: x7 :: x8 :: x9 :: x10 :: x11 :: (Sl.sh d12) :: x13 :: x14 :: (Sl.sh (.int (m : Nat))) :: x16 :: x17 :: x18 :: x19 :: x20 :: x21 :: (Sl.sh (.lst ((shpL m).map ti))) :: Sl.un :: Sl.un :: Sl.un :: Sl.un :: Sl.un :: Sl.un :: Sl.un :: Sl.un :: Sl.un :: Sl.un :: []) := by
  have q : (List.range 10).map (fun m : Nat => (sSeq ml_27 ml_28) (x0 :: (Sl.ow (.lst [.int s, .int t])) :: (Sl.sh (.int a)) :: x3 :: x4 :: x5 :: x6 :: x7 :: x8 :: x9 :: x10 :: x11 :: (Sl.sh d12) :: x13 :: x14 :: (Sl.sh (.int m)) :: x16 :: x17 :: x18 :: x19 :: x20 :: x21 :: Sl.un :: Sl.un :: Sl.un :: Sl.un :: Sl.un :: Sl.un :: Sl.un :: Sl.un :: Sl.un :: Sl.un :: Sl.un :: [])) = (List.range 10).map (fun m : Nat => Out.ok Fl.nx (x0 :: (Sl.ow (.lst [.int s, .int t])) :: (Sl.sh (.int a)) :: x3 :: x4 :: x5 :: x6 :: x7 :: x8 :: x9 :: x10 :: x11 :: (Sl.sh d12) :: x13 :: x14 :: (Sl.sh (.int m)) :: x16 :: x17 :: x18 :: x19 :: x20 :: x21 :: (Sl.sh (.lst ((shpL m).map ti))) :: Sl.un :: Sl.un :: Sl.un :: Sl.un :: Sl.un :: Sl.un :: Sl.un :: Sl.un :: Sl.un :: Sl.un :: [])) := by kernel_rfl
  intro m hm
  exact map_at q m (List.mem_range.mpr hm)
theorem t30u : ∀ m < 10, ∀ p ∈ shpL m, ml_30 (x0 :: (Sl.ow (.lst [.int s, .int t])) :: (Sl.sh (.int a)) :: x3 :: x4 :: x5 :: x6 :: x7 :: (Sl.un) :: x9 :: x10 :: x11 :: (Sl.sh d12) :: x13 :: x14 :: (Sl.sh (.int m)) :: x16 :: x17 :: x18 :: x19 :: x20 :: x21 :: (Sl.sh (.lst ((shpL m).map ti))) :: (Sl.sh (ti p)) :: x24 :: Sl.un :: Sl.un :: Sl.un :: Sl.un :: Sl.un :: Sl.un :: Sl.un :: Sl.un :: []) = .ok .nx (x0 :: (Sl.ow (.lst [.int s, .int t])) :: (Sl.sh (.int a)) :: x3 :: x4 :: x5 :: x6 :: x7 :: (Sl.un) :: x9 :: x10 :: x11 :: (Sl.sh d12) :: x13 :: x14 :: (Sl.sh (.int m)) :: x16 :: x17 :: x18 :: x19 :: x20 :: x21 :: (Sl.sh (.lst ((shpL m).map ti))) :: (Sl.sh (ti p)) :: x24 :: Sl.un :: Sl.un :: Sl.un :: Sl.un :: Sl.un :: Sl.un :: Sl.un :: Sl.un :: []) := by
  have q : (List.range 10).map (fun m : Nat => (shpL m).map fun p => ml_30 (x0 :: (Sl.ow (.lst [.int s, .int t])) :: (Sl.sh (.int a)) :: x3 :: x4 :: x5 :: x6 :: x7 :: (Sl.un) :: x9 :: x10 :: x11 :: (Sl.sh d12) :: x13 :: x14 :: (Sl.sh (.int m)) :: x16 :: x17 :: x18 :: x19 :: x20 :: x21 :: (Sl.sh (.lst ((shpL m).map ti))) :: (Sl.sh (ti p)) :: x24 :: Sl.un :: Sl.un :: Sl.un :: Sl.un :: Sl.un :: Sl.un :: Sl.un :: Sl.un :: [])) = (List.range 10).map (fun m : Nat => (shpL m).map fun p => Out.ok Fl.nx (x0 :: (Sl.ow (.lst [.int s, .int t])) :: (Sl.sh (.int a)) :: x3 :: x4 :: x5 :: x6 :: x7 :: (Sl.un) :: x9 :: x10 :: x11 :: (Sl.sh d12) :: x13 :: x14 :: (Sl.sh (.int m)) :: x16 :: x17 :: x18 :: x19 :: x20 :: x21 :: (Sl.sh (.lst ((shpL m).map ti))) :: (Sl.sh (ti p)) :: x24 :: Sl.un :: Sl.un :: Sl.un :: Sl.un :: Sl.un :: Sl.un :: Sl.un :: Sl.un :: [])) := by kernel_rfl
  intro m hm p hp
  exact map_at (map_at q m (List.mem_range.mpr hm)) p hp
theorem t30s (d8 : D) : ∀ m < 10, ∀ p ∈ shpL m, ml_30 (x0 :: (Sl.ow (.lst [.int s, .int t])) :: (Sl.sh (.int a)) :: x3 :: x4 :: x5 :: x6 :: x7 :: (Sl.sh d8) :: x9 :: x10 :: x11 :: (Sl.sh d12) :: x13 :: x14 :: (Sl.sh (.int m)) :: x16 :: x17 :: x18 :: x19 :: x20 :: x21 :: (Sl.sh (.lst ((shpL m).map ti))) :: (Sl.sh (ti p)) :: x24 :: Sl.un :: Sl.un :: Sl.un :: Sl.un :: Sl.un :: Sl.un :: Sl.un :: Sl.un :: []) = .ok .nx (x0 :: (Sl.ow (.lst [.int s, .int t])) :: (Sl.sh (.int a)) :: x3 :: x4 :: x5 :: x6 :: x7 :: (Sl.sh d8) :: x9 :: x10 :: x11 :: (Sl.sh d12) :: x13 :: x14 :: (Sl.sh (.int m)) :: x16 :: x17 :: x18 :: x19 :: x20 :: x21 :: (Sl.sh (.lst ((shpL m).map ti))) :: (Sl.sh (ti p)) :: x24 :: Sl.un :: Sl.un :: Sl.un :: Sl.un :: Sl.un :: Sl.un :: Sl.un :: Sl.un :: []) := by
  have q : (List.range 10).map (fun m : Nat => (shpL m).map fun p => ml_30 (x0 :: (Sl.ow (.lst [.int s, .int t])) :: (Sl.sh (.int a)) :: x3 :: x4 :: x5 :: x6 :: x7 :: (Sl.sh d8) :: x9 :: x10 :: x11 :: (Sl.sh d12) :: x13 :: x14 :: (Sl.sh (.int m)) :: x16 :: x17 :: x18 :: x19 :: x20 :: x21 :: (Sl.sh (.lst ((shpL m).map ti))) :: (Sl.sh (ti p)) :: x24 :: Sl.un :: Sl.un :: Sl.un :: Sl.un :: Sl.un :: Sl.un :: Sl.un :: Sl.un :: [])) = (List.range 10).map (fun m : Nat => (shpL m).map fun p => Out.ok Fl.nx (x0 :: (Sl.ow (.lst [.int s, .int t])) :: (Sl.sh (.int a)) :: x3 :: x4 :: x5 :: x6 :: x7 :: (Sl.sh d8) :: x9 :: x10 :: x11 :: (Sl.sh d12) :: x13 :: x14 :: (Sl.sh (.int m)) :: x16 :: x17 :: x18 :: x19 :: x20 :: x21 :: (Sl.sh (.lst ((shpL m).map ti))) :: (Sl.sh (ti p)) :: x24 :: Sl.un :: Sl.un :: Sl.un :: Sl.un :: Sl.un :: Sl.un :: Sl.un :: Sl.un :: [])) := by kernel_rfl
  intro m hm p hp
  exact map_at (map_at q m (List.mem_range.mpr hm)) p hp
theorem t31_0e : ml_31 (x0 :: (Sl.ow (.lst [.int s, .int t])) :: (Sl.sh (.int a)) :: x3 :: x4 :: x5 :: x6 :: x7 :: x8 :: x9 :: x10 :: x11 :: (Sl.sh d12) :: x13 :: x14 :: (Sl.sh (.int (0 : Nat))) :: x16 :: x17 :: x18 :: x19 :: x20 :: x21 :: (Sl.sh (.lst ((shpL 0).map ti))) :: (Sl.sh (ti [])) :: (Sl.sh (ti [])) :: Sl.un :: Sl.un :: Sl.un :: Sl.un :: Sl.un :: Sl.un :: Sl.un :: Sl.un :: []) = .ok .nx (x0 :: (Sl.ow (.lst [.int s, .int t])) :: (Sl.sh (.int a)) :: x3 :: x4 :: x5 :: x6 :: x7 :: x8 :: x9 :: x10 :: x11 :: (Sl.sh d12) :: x13 :: x14 :: (Sl.sh (.int (0 : Nat))) :: x16 :: x17 :: x18 :: x19 :: x20 :: x21 :: (Sl.sh (.lst ((shpL 0).map ti))) :: (Sl.sh (ti [])) :: (Sl.sh (ti [])) :: Sl.un :: Sl.un :: Sl.un :: Sl.un :: Sl.un :: Sl.un :: Sl.un :: Sl.un :: []) := by kernel_rfl
theorem t31_0 : ∀ p ∈ shpL 0, ∀ q ∈ shpL 0, ml_31 (x0 :: (Sl.ow (.lst [.int s, .int t])) :: (Sl.sh (.int a)) :: x3 :: x4 :: x5 :: x6 :: x7 :: x8 :: x9 :: x10 :: x11 :: (Sl.sh d12) :: x13 :: x14 :: (Sl.sh (.int (0 : Nat))) :: x16 :: x17 :: x18 :: x19 :: x20 :: x21 :: (Sl.sh (.lst ((shpL 0).map ti))) :: (Sl.sh (ti p)) :: (Sl.sh (ti q)) :: Sl.un :: Sl.un :: Sl.un :: Sl.un :: Sl.un :: Sl.un :: Sl.un :: Sl.un :: []) = .ok .nx (x0 :: (Sl.ow (.lst [.int s, .int t])) :: (Sl.sh (.int a)) :: x3 :: x4 :: x5 :: x6 :: x7 :: x8 :: x9 :: x10 :: x11 :: (Sl.sh d12) :: x13 :: x14 :: (Sl.sh (.int (0 : Nat))) :: x16 :: x17 :: x18 :: x19 :: x20 :: x21 :: (Sl.sh (.lst ((shpL 0).map ti))) :: (Sl.sh (ti p)) :: (Sl.sh (ti q)) :: Sl.un :: Sl.un :: Sl.un :: Sl.un :: Sl.un :: Sl.un :: Sl.un :: Sl.un :: []) := by
  intro p hp q hq
  cases List.mem_singleton.mp hp
  cases List.mem_singleton.mp hq
  exact t31_0e x0 x3 x4 x5 x6 x7 x8 x9 x10 x11 x13 x14 x16 x17 x18 x19 x20 x21 d12 s t a
theorem t31_1_0 : ∀ p ∈ ([[1]] : List (List Int)), ∀ q ∈ shpL 1, ml_31 (x0 :: (Sl.ow (.lst [.int s, .int t])) :: (Sl.sh (.int a)) :: x3 :: x4 :: x5 :: x6 :: x7 :: x8 :: x9 :: x10 :: x11 :: (Sl.sh d12) :: x13 :: x14 :: (Sl.sh (.int (1 : Nat))) :: x16 :: x17 :: x18 :: x19 :: x20 :: x21 :: (Sl.sh (.lst ((shpL 1).map ti))) :: (Sl.sh (ti p)) :: (Sl.sh (ti q)) :: Sl.un :: Sl.un :: Sl.un :: Sl.un :: Sl.un :: Sl.un :: Sl.un :: Sl.un :: []) = .ok .nx (x0 :: (Sl.ow (.lst [.int s, .int t])) :: (Sl.sh (.int a)) :: x3 :: x4 :: x5 :: x6 :: x7 :: x8 :: x9 :: x10 :: x11 :: (Sl.sh d12) :: x13 :: x14 :: (Sl.sh (.int (1 : Nat))) :: x16 :: x17 :: x18 :: x19 :: x20 :: x21 :: (Sl.sh (.lst ((shpL 1).map ti))) :: (Sl.sh (ti p)) :: (Sl.sh (ti q)) :: Sl.un :: Sl.un :: Sl.un :: Sl.un :: Sl.un :: Sl.un :: Sl.un :: Sl.un :: []) := by
  have h : ([[1]] : List (List Int)).map (fun p => (shpL 1).map fun q => ml_31 (x0 :: (Sl.ow (.lst [.int s, .int t])) :: (Sl.sh (.int a)) :: x3 :: x4 :: x5 :: x6 :: x7 :: x8 :: x9 :: x10 :: x11 :: (Sl.sh d12) :: x13 :: x14 :: (Sl.sh (.int (1 : Nat))) :: x16 :: x17 :: x18 :: x19 :: x20 :: x21 :: (Sl.sh (.lst ((shpL 1).map ti))) :: (Sl.sh (ti p)) :: (Sl.sh (ti q)) :: Sl.un :: Sl.un :: Sl.un :: Sl.un :: Sl.un :: Sl.un :: Sl.un :: Sl.un :: [])) = ([[1]] : List (List Int)).map (fun p => (shpL 1).map fun q => Out.ok Fl.nx (x0 :: (Sl.ow (.lst [.int s, .int t])) :: (Sl.sh (.int a)) :: x3 :: x4 :: x5 :: x6 :: x7 :: x8 :: x9 :: x10 :: x11 :: (Sl.sh d12) :: x13 :: x14 :: (Sl.sh (.int (1 : Nat))) :: x16 :: x17 :: x18 :: x19 :: x20 :: x21 :: (Sl.sh (.lst ((shpL 1).map ti))) :: (Sl.sh (ti p)) :: (Sl.sh (ti q)) :: Sl.un :: Sl.un :: Sl.un :: Sl.un :: Sl.un :: Sl.un :: Sl.un :: Sl.un :: [])) := by kernel_rfl
  intro p hp q hq
  exact map_at (map_at h p hp) q hq
theorem t31_1 : ∀ p ∈ shpL 1, ∀ q ∈ shpL 1, ml_31 (x0 :: (Sl.ow (.lst [.int s, .int t])) :: (Sl.sh (.int a)) :: x3 :: x4 :: x5 :: x6 :: x7 :: x8 :: x9 :: x10 :: x11 :: (Sl.sh d12) :: x13 :: x14 :: (Sl.sh (.int (1 : Nat))) :: x16 :: x17 :: x18 :: x19 :: x20 :: x21 :: (Sl.sh (.lst ((shpL 1).map ti))) :: (Sl.sh (ti p)) :: (Sl.sh (ti q)) :: Sl.un :: Sl.un :: Sl.un :: Sl.un :: Sl.un :: Sl.un :: Sl.un :: Sl.un :: []) = .ok .nx (x0 :: (Sl.ow (.lst [.int s, .int t])) :: (Sl.sh (.int a)) :: x3 :: x4 :: x5 :: x6 :: x7 :: x8 :: x9 :: x10 :: x11 :: (Sl.sh d12) :: x13 :: x14 :: (Sl.sh (.int (1 : Nat))) :: x16 :: x17 :: x18 :: x19 :: x20 :: x21 :: (Sl.sh (.lst ((shpL 1).map ti))) :: (Sl.sh (ti p)) :: (Sl.sh (ti q)) :: Sl.un :: Sl.un :: Sl.un :: Sl.un :: Sl.un :: Sl.un :: Sl.un :: Sl.un :: []) := by
  intro p hp q hq
  exact t31_1_0 x0 x3 x4 x5 x6 x7 x8 x9 x10 x11 x13 x14 x16 x17 x18 x19 x20 x21 d12 s t a p hp q hq
theorem t31_2_0 : ∀ p ∈ ([[2], [1, 1]] : List (List Int)), ∀ q ∈ shpL 2, ml_31 (x0 :: (Sl.ow (.lst [.int s, .int t])) :: (Sl.sh (.int a)) :: x3 :: x4 :: x5 :: x6 :: x7 :: x8 :: x9 :: x10 :: x11 :: (Sl.sh d12) :: x13 :: x14 :: (Sl.sh (.int (2 : Nat))) :: x16 :: x17 :: x18 :: x19 :: x20 :: x21 :: (Sl.sh (.lst ((shpL 2).map ti))) :: (Sl.sh (ti p)) :: (Sl.sh (ti q)) :: Sl.un :: Sl.un :: Sl.un :: Sl.un :: Sl.un :: Sl.un :: Sl.un :: Sl.un :: []) = .ok .nx (x0 :: (Sl.ow (.lst [.int s, .int t])) :: (Sl.sh (.int a)) :: x3 :: x4 :: x5 :: x6 :: x7 :: x8 :: x9 :: x10 :: x11 :: (Sl.sh d12) :: x13 :: x14 :: (Sl.sh (.int (2 : Nat))) :: x16 :: x17 :: x18 :: x19 :: x20 :: x21 :: (Sl.sh (.lst ((shpL 2).map ti))) :: (Sl.sh (ti p)) :: (Sl.sh (ti q)) :: Sl.un :: Sl.un :: Sl.un :: Sl.un :: Sl.un :: Sl.un :: Sl.un :: Sl.un :: []) := by
  have h : ([[2], [1, 1]] : List (List Int)).map (fun p => (shpL 2).map fun q => ml_31 (x0 :: (Sl.ow (.lst [.int s, .int t])) :: (Sl.sh (.int a)) :: x3 :: x4 :: x5 :: x6 :: x7 :: x8 :: x9 :: x10 :: x11 :: (Sl.sh d12) :: x13 :: x14 :: (Sl.sh (.int (2 : Nat))) :: x16 :: x17 :: x18 :: x19 :: x20 :: x21 :: (Sl.sh (.lst ((shpL 2).map ti))) :: (Sl.sh (ti p)) :: (Sl.sh (ti q)) :: Sl.un :: Sl.un :: Sl.un :: Sl.un :: Sl.un :: Sl.un :: Sl.un :: Sl.un :: [])) = ([[2], [1, 1]] : List (List Int)).map (fun p => (shpL 2).map fun q => Out.ok Fl.nx (x0 :: (Sl.ow (.lst [.int s, .int t])) :: (Sl.sh (.int a)) :: x3 :: x4 :: x5 :: x6 :: x7 :: x8 :: x9 :: x10 :: x11 :: (Sl.sh d12) :: x13 :: x14 :: (Sl.sh (.int (2 : Nat))) :: x16 :: x17 :: x18 :: x19 :: x20 :: x21 :: (Sl.sh (.lst ((shpL 2).map ti))) :: (Sl.sh (ti p)) :: (Sl.sh (ti q)) :: Sl.un :: Sl.un :: Sl.un :: Sl.un :: Sl.un :: Sl.un :: Sl.un :: Sl.un :: [])) := by kernel_rfl
  intro p hp q hq
  exact map_at (map_at h p hp) q hq
theorem t31_2 : ∀ p ∈ shpL 2, ∀ q ∈ shpL 2, ml_31 (x0 :: (Sl.ow (.lst [.int s, .int t])) :: (Sl.sh (.int a)) :: x3 :: x4 :: x5 :: x6 :: x7 :: x8 :: x9 :: x10 :: x11 :: (Sl.sh d12) :: x13 :: x14 :: (Sl.sh (.int (2 : Nat))) :: x16 :: x17 :: x18 :: x19 :: x20 :: x21 :: (Sl.sh (.lst ((shpL 2).map ti))) :: (Sl.sh (ti p)) :: (Sl.sh (ti q)) :: Sl.un :: Sl.un :: Sl.un :: Sl.un :: Sl.un :: Sl.un :: Sl.un :: Sl.un :: []) = .ok .nx (x0 :: (Sl.ow (.lst [.int s, .int t])) :: (Sl.sh (.int a)) :: x3 :: x4 :: x5 :: x6 :: x7 :: x8 :: x9 :: x10 :: x11 :: (Sl.sh d12) :: x13 :: x14 :: (Sl.sh (.int (2 : Nat))) :: x16 :: x17 :: x18 :: x19 :: x20 :: x21 :: (Sl.sh (.lst ((shpL 2).map ti))) :: (Sl.sh (ti p)) :: (Sl.sh (ti q)) :: Sl.un :: Sl.un :: Sl.un :: Sl.un :: Sl.un :: Sl.un :: Sl.un :: Sl.un :: []) := by
  intro p hp q hq
  exact t31_2_0 x0 x3 x4 x5 x6 x7 x8 x9 x10 x11 x13 x14 x16 x17 x18 x19 x20 x21 d12 s t a p hp q hq
theorem t31_3_0 : ∀ p ∈ ([[3], [2, 1], [1, 1, 1]] : List (List Int)), ∀ q ∈ shpL 3, ml_31 (x0 :: (Sl.ow (.lst [.int s, .int t])) :: (Sl.sh (.int a)) :: x3 :: x4 :: x5 :: x6 :: x7 :: x8 :: x9 :: x10 :: x11 :: (Sl.sh d12) :: x13 :: x14 :: (Sl.sh (.int (3 : Nat))) :: x16 :: x17 :: x18 :: x19 :: x20 :: x21 :: (Sl.sh (.lst ((shpL 3).map ti))) :: (Sl.sh (ti p)) :: (Sl.sh (ti q)) :: Sl.un :: Sl.un :: Sl.un :: Sl.un :: Sl.un :: Sl.un :: Sl.un :: Sl.un :: []) = .ok .nx (x0 :: (Sl.ow (.lst [.int s, .int t])) :: (Sl.sh (.int a)) :: x3 :: x4 :: x5 :: x6 :: x7 :: x8 :: x9 :: x10 :: x11 :: (Sl.sh d12) :: x13 :: x14 :: (Sl.sh (.int (3 : Nat))) :: x16 :: x17 :: x18 :: x19 :: x20 :: x21 :: (Sl.sh (.lst ((shpL 3).map ti))) :: (Sl.sh (ti p)) :: (Sl.sh (ti q)) :: Sl.un :: Sl.un :: Sl.un :: Sl.un :: Sl.un :: Sl.un :: Sl.un :: Sl.un :: []) := by
  have h : ([[3], [2, 1], [1, 1, 1]] : List (List Int)).map (fun p => (shpL 3).map fun q => ml_31 (x0 :: (Sl.ow (.lst [.int s, .int t])) :: (Sl.sh (.int a)) :: x3 :: x4 :: x5 :: x6 :: x7 :: x8 :: x9 :: x10 :: x11 :: (Sl.sh d12) :: x13 :: x14 :: (Sl.sh (.int (3 : Nat))) :: x16 :: x17 :: x18 :: x19 :: x20 :: x21 :: (Sl.sh (.lst ((shpL 3).map ti))) :: (Sl.sh (ti p)) :: (Sl.sh (ti q)) :: Sl.un :: Sl.un :: Sl.un :: Sl.un :: Sl.un :: Sl.un :: Sl.un :: Sl.un :: [])) = ([[3], [2, 1], [1, 1, 1]] : List (List Int)).map (fun p => (shpL 3).map fun q => Out.ok Fl.nx (x0 :: (Sl.ow (.lst [.int s, .int t])) :: (Sl.sh (.int a)) :: x3 :: x4 :: x5 :: x6 :: x7 :: x8 :: x9 :: x10 :: x11 :: (Sl.sh d12) :: x13 :: x14 :: (Sl.sh (.int (3 : Nat))) :: x16 :: x17 :: x18 :: x19 :: x20 :: x21 :: (Sl.sh (.lst ((shpL 3).map ti))) :: (Sl.sh (ti p)) :: (Sl.sh (ti q)) :: Sl.un :: Sl.un :: Sl.un :: Sl.un :: Sl.un :: Sl.un :: Sl.un :: Sl.un :: [])) := by kernel_rfl
  intro p hp q hq
  exact map_at (map_at h p hp) q hq
theorem t31_3 : ∀ p ∈ shpL 3, ∀ q ∈ shpL 3, ml_31 (x0 :: (Sl.ow (.lst [.int s, .int t])) :: (Sl.sh (.int a)) :: x3 :: x4 :: x5 :: x6 :: x7 :: x8 :: x9 :: x10 :: x11 :: (Sl.sh d12) :: x13 :: x14 :: (Sl.sh (.int (3 : Nat))) :: x16 :: x17 :: x18 :: x19 :: x20 :: x21 :: (Sl.sh (.lst ((shpL 3).map ti))) :: (Sl.sh (ti p)) :: (Sl.sh (ti q)) :: Sl.un :: Sl.un :: Sl.un :: Sl.un :: Sl.un :: Sl.un :: Sl.un :: Sl.un :: []) = .ok .nx (x0 :: (Sl.ow (.lst [.int s, .int t])) :: (Sl.sh (.int a)) :: x3 :: x4 :: x5 :: x6 :: x7 :: x8 :: x9 :: x10 :: x11 :: (Sl.sh d12) :: x13 :: x14 :: (Sl.sh (.int (3 : Nat))) :: x16 :: x17 :: x18 :: x19 :: x20 :: x21 :: (Sl.sh (.lst ((shpL 3).map ti))) :: (Sl.sh (ti p)) :: (Sl.sh (ti q)) :: Sl.un :: Sl.un :: Sl.un :: Sl.un :: Sl.un :: Sl.un :: Sl.un :: Sl.un :: []) := by
  intro p hp q hq
  exact t31_3_0 x0 x3 x4 x5 x6 x7 x8 x9 x10 x11 x13 x14 x16 x17 x18 x19 x20 x21 d12 s t a p hp q hq
theorem t31_4_0 : ∀ p ∈ ([[4], [3, 1], [2, 2], [2, 1, 1], [1, 1, 1, 1]] : List (List Int)), ∀ q ∈ shpL 4, ml_31 (x0 :: (Sl.ow (.lst [.int s, .int t])) :: (Sl.sh (.int a)) :: x3 :: x4 :: x5 :: x6 :: x7 :: x8 :: x9 :: x10 :: x11 :: (Sl.sh d12) :: x13 :: x14 :: (Sl.sh (.int (4 : Nat))) :: x16 :: x17 :: x18 :: x19 :: x20 :: x21 :: (Sl.sh (.lst ((shpL 4).map ti))) :: (Sl.sh (ti p)) :: (Sl.sh (ti q)) :: Sl.un :: Sl.un :: Sl.un :: Sl.un :: Sl.un :: Sl.un :: Sl.un :: Sl.un :: []) = .ok .nx (x0 :: (Sl.ow (.lst [.int s, .int t])) :: (Sl.sh (.int a)) :: x3 :: x4 :: x5 :: x6 :: x7 :: x8 :: x9 :: x10 :: x11 :: (Sl.sh d12) :: x13 :: x14 :: (Sl.sh (.int (4 : Nat))) :: x16 :: x17 :: x18 :: x19 :: x20 :: x21 :: (Sl.sh (.lst ((shpL 4).map ti))) :: (Sl.sh (ti p)) :: (Sl.sh (ti q)) :: Sl.un :: Sl.un :: Sl.un :: Sl.un :: Sl.un :: Sl.un :: Sl.un :: Sl.un :: []) := by
  have h : ([[4], [3, 1], [2, 2], [2, 1, 1], [1, 1, 1, 1]] : List (List Int)).map (fun p => (shpL 4).map fun q => ml_31 (x0 :: (Sl.ow (.lst [.int s, .int t])) :: (Sl.sh (.int a)) :: x3 :: x4 :: x5 :: x6 :: x7 :: x8 :: x9 :: x10 :: x11 :: (Sl.sh d12) :: x13 :: x14 :: (Sl.sh (.int (4 : Nat))) :: x16 :: x17 :: x18 :: x19 :: x20 :: x21 :: (Sl.sh (.lst ((shpL 4).map ti))) :: (Sl.sh (ti p)) :: (Sl.sh (ti q)) :: Sl.un :: Sl.un :: Sl.un :: Sl.un :: Sl.un :: Sl.un :: Sl.un :: Sl.un :: [])) = ([[4], [3, 1], [2, 2], [2, 1, 1], [1, 1, 1, 1]] : List (List Int)).map (fun p => (shpL 4).map fun q => Out.ok Fl.nx (x0 :: (Sl.ow (.lst [.int s, .int t])) :: (Sl.sh (.int a)) :: x3 :: x4 :: x5 :: x6 :: x7 :: x8 :: x9 :: x10 :: x11 :: (Sl.sh d12) :: x13 :: x14 :: (Sl.sh (.int (4 : Nat))) :: x16 :: x17 :: x18 :: x19 :: x20 :: x21 :: (Sl.sh (.lst ((shpL 4).map ti))) :: (Sl.sh (ti p)) :: (Sl.sh (ti q)) :: Sl.un :: Sl.un :: Sl.un :: Sl.un :: Sl.un :: Sl.un :: Sl.un :: Sl.un :: [])) := by kernel_rfl
  intro p hp q hq
  exact map_at (map_at h p hp) q hq
theorem t31_4 : ∀ p ∈ shpL 4, ∀ q ∈ shpL 4, ml_31 (x0 :: (Sl.ow (.lst [.int s, .int t])) :: (Sl.sh (.int a)) :: x3 :: x4 :: x5 :: x6 :: x7 :: x8 :: x9 :: x10 :: x11 :: (Sl.sh d12) :: x13 :: x14 :: (Sl.sh (.int (4 : Nat))) :: x16 :: x17 :: x18 :: x19 :: x20 :: x21 :: (Sl.sh (.lst ((shpL 4).map ti))) :: (Sl.sh (ti p)) :: (Sl.sh (ti q)) :: Sl.un :: Sl.un :: Sl.un :: Sl.un :: Sl.un :: Sl.un :: Sl.un :: Sl.un :: []) = .ok .nx (x0 :: (Sl.ow (.lst [.int s, .int t])) :: (Sl.sh (.int a)) :: x3 :: x4 :: x5 :: x6 :: x7 :: x8 :: x9 :: x10 :: x11 :: (Sl.sh d12) :: x13 :: x14 :: (Sl.sh (.int (4 : Nat))) :: x16 :: x17 :: x18 :: x19 :: x20 :: x21 :: (Sl.sh (.lst ((shpL 4).map ti))) :: (Sl.sh (ti p)) :: (Sl.sh (ti q)) :: Sl.un :: Sl.un :: Sl.un :: Sl.un :: Sl.un :: Sl.un :: Sl.un :: Sl.un :: []) := by
  intro p hp q hq
  exact t31_4_0 x0 x3 x4 x5 x6 x7 x8 x9 x10 x11 x13 x14 x16 x17 x18 x19 x20 x21 d12 s t a p hp q hq
theorem t31_5_0 : ∀ p ∈ ([[5], [4, 1], [3, 2], [3, 1, 1], [2, 2, 1], [2, 1, 1, 1], [1, 1, 1, 1, 1]] : List (List Int)), ∀ q ∈ shpL 5, ml_31 (x0 :: (Sl.ow (.lst [.int s, .int t])) :: (Sl.sh (.int a)) :: x3 :: x4 :: x5 :: x6 :: x7 :: x8 :: x9 :: x10 :: x11 :: (Sl.sh d12) :: x13 :: x14 :: (Sl.sh (.int (5 : Nat))) :: x16 :: x17 :: x18 :: x19 :: x20 :: x21 :: (Sl.sh (.lst ((shpL 5).map ti))) :: (Sl.sh (ti p)) :: (Sl.sh (ti q)) :: Sl.un :: Sl.un :: Sl.un :: Sl.un :: Sl.un :: Sl.un :: Sl.un :: Sl.un :: []) = .ok .nx (x0 :: (Sl.ow (.lst [.int s, .int t])) :: (Sl.sh (.int a)) :: x3 :: x4 :: x5 :: x6 :: x7 :: x8 :: x9 :: x10 :: x11 :: (Sl.sh d12) :: x13 :: x14 :: (Sl.sh (.int (5 : Nat))) :: x16 :: x17 :: x18 :: x19 :: x20 :: x21 :: (Sl.sh (.lst ((shpL 5).map ti))) :: (Sl.sh (ti p)) :: (Sl.sh (ti q)) :: Sl.un :: Sl.un :: Sl.un :: Sl.un :: Sl.un :: Sl.un :: Sl.un :: Sl.un :: []) := by
  have h : ([[5], [4, 1], [3, 2], [3, 1, 1], [2, 2, 1], [2, 1, 1, 1], [1, 1, 1, 1, 1]] : List (List Int)).map (fun p => (shpL 5).map fun q => ml_31 (x0 :: (Sl.ow (.lst [.int s, .int t])) :: (Sl.sh (.int a)) :: x3 :: x4 :: x5 :: x6 :: x7 :: x8 :: x9 :: x10 :: x11 :: (Sl.sh d12) :: x13 :: x14 :: (Sl.sh (.int (5 : Nat))) :: x16 :: x17 :: x18 :: x19 :: x20 :: x21 :: (Sl.sh (.lst ((shpL 5).map ti))) :: (Sl.sh (ti p)) :: (Sl.sh (ti q)) :: Sl.un :: Sl.un :: Sl.un :: Sl.un :: Sl.un :: Sl.un :: Sl.un :: Sl.un :: [])) = ([[5], [4, 1], [3, 2], [3, 1, 1], [2, 2, 1], [2, 1, 1, 1], [1, 1, 1, 1, 1]] : List (List Int)).map (fun p => (shpL 5).map fun q => Out.ok Fl.nx (x0 :: (Sl.ow (.lst [.int s, .int t])) :: (Sl.sh (.int a)) :: x3 :: x4 :: x5 :: x6 :: x7 :: x8 :: x9 :: x10 :: x11 :: (Sl.sh d12) :: x13 :: x14 :: (Sl.sh (.int (5 : Nat))) :: x16 :: x17 :: x18 :: x19 :: x20 :: x21 :: (Sl.sh (.lst ((shpL 5).map ti))) :: (Sl.sh (ti p)) :: (Sl.sh (ti q)) :: Sl.un :: Sl.un :: Sl.un :: Sl.un :: Sl.un :: Sl.un :: Sl.un :: Sl.un :: [])) := by kernel_rfl
  intro p hp q hq
  exact map_at (map_at h p hp) q hq
theorem t31_5 : ∀ p ∈ shpL 5, ∀ q ∈ shpL 5, ml_31 (x0 :: (Sl.ow (.lst [.int s, .int t])) :: (Sl.sh (.int a)) :: x3 :: x4 :: x5 :: x6 :: x7 :: x8 :: x9 :: x10 :: x11 :: (Sl.sh d12) :: x13 :: x14 :: (Sl.sh (.int (5 : Nat))) :: x16 :: x17 :: x18 :: x19 :: x20 :: x21 :: (Sl.sh (.lst ((shpL 5).map ti))) :: (Sl.sh (ti p)) :: (Sl.sh (ti q)) :: Sl.un :: Sl.un :: Sl.un :: Sl.un :: Sl.un :: Sl.un :: Sl.un :: Sl.un :: []) = .ok .nx (x0 :: (Sl.ow (.lst [.int s, .int t])) :: (Sl.sh (.int a)) :: x3 :: x4 :: x5 :: x6 :: x7 :: x8 :: x9 :: x10 :: x11 :: (Sl.sh d12) :: x13 :: x14 :: (Sl.sh (.int (5 : Nat))) :: x16 :: x17 :: x18 :: x19 :: x20 :: x21 :: (Sl.sh (.lst ((shpL 5).map ti))) :: (Sl.sh (ti p)) :: (Sl.sh (ti q)) :: Sl.un :: Sl.un :: Sl.un :: Sl.un :: Sl.un :: Sl.un :: Sl.un :: Sl.un :: []) := by
  intro p hp q hq
  exact t31_5_0 x0 x3 x4 x5 x6 x7 x8 x9 x10 x11 x13 x14 x16 x17 x18 x19 x20 x21 d12 s t a p hp q hq
theorem t31_6_0 : ∀ p ∈ ([[6], [5, 1], [4, 2], [4, 1, 1], [3, 3], [3, 2, 1], [3, 1, 1, 1], [2, 2, 2], [2, 2, 1, 1], [2, 1, 1, 1, 1]] : List (List Int)), ∀ q ∈ shpL 6, ml_31 (x0 :: (Sl.ow (.lst [.int s, .int t])) :: (Sl.sh (.int a)) :: x3 :: x4 :: x5 :: x6 :: x7 :: x8 :: x9 :: x10 :: x11 :: (Sl.sh d12) :: x13 :: x14 :: (Sl.sh (.int (6 : Nat))) :: x16 :: x17 :: x18 :: x19 :: x20 :: x21 :: (Sl.sh (.lst ((shpL 6).map ti))) :: (Sl.sh (ti p)) :: (Sl.sh (ti q)) :: Sl.un :: Sl.un :: Sl.un :: Sl.un :: Sl.un :: Sl.un :: Sl.un :: Sl.un :: []) = .ok .nx (x0 :: (Sl.ow (.lst [.int s, .int t])) :: (Sl.sh (.int a)) :: x3 :: x4 :: x5 :: x6 :: x7 :: x8 :: x9 :: x10 :: x11 :: (Sl.sh d12) :: x13 :: x14 :: (Sl.sh (.int (6 : Nat))) :: x16 :: x17 :: x18 :: x19 :: x20 :: x21 :: (Sl.sh (.lst ((shpL 6).map ti))) :: (Sl.sh (ti p)) :: (Sl.sh (ti q)) :: Sl.un :: Sl.un :: Sl.un :: Sl.un :: Sl.un :: Sl.un :: Sl.un :: Sl.un :: []) := by
  have h : ([[6], [5, 1], [4, 2], [4, 1, 1], [3, 3], [3, 2, 1], [3, 1, 1, 1], [2, 2, 2], [2, 2, 1, 1], [2, 1, 1, 1, 1]] : List (List Int)).map (fun p => (shpL 6).map fun q => ml_31 (x0 :: (Sl.ow (.lst [.int s, .int t])) :: (Sl.sh (.int a)) :: x3 :: x4 :: x5 :: x6 :: x7 :: x8 :: x9 :: x10 :: x11 :: (Sl.sh d12) :: x13 :: x14 :: (Sl.sh (.int (6 : Nat))) :: x16 :: x17 :: x18 :: x19 :: x20 :: x21 :: (Sl.sh (.lst ((shpL 6).map ti))) :: (Sl.sh (ti p)) :: (Sl.sh (ti q)) :: Sl.un :: Sl.un :: Sl.un :: Sl.un :: Sl.un :: Sl.un :: Sl.un :: Sl.un :: [])) = ([[6], [5, 1], [4, 2], [4, 1, 1], [3, 3], [3, 2, 1], [3, 1, 1, 1], [2, 2, 2], [2, 2, 1, 1], [2, 1, 1, 1, 1]] : List (List Int)).map (fun p => (shpL 6).map fun q => Out.ok Fl.nx (x0 :: (Sl.ow (.lst [.int s, .int t])) :: (Sl.sh (.int a)) :: x3 :: x4 :: x5 :: x6 :: x7 :: x8 :: x9 :: x10 :: x11 :: (Sl.sh d12) :: x13 :: x14 :: (Sl.sh (.int (6 : Nat))) :: x16 :: x17 :: x18 :: x19 :: x20 :: x21 :: (Sl.sh (.lst ((shpL 6).map ti))) :: (Sl.sh (ti p)) :: (Sl.sh (ti q)) :: Sl.un :: Sl.un :: Sl.un :: Sl.un :: Sl.un :: Sl.un :: Sl.un :: Sl.un :: [])) := by kernel_rfl
  intro p hp q hq
  exact map_at (map_at h p hp) q hq
theorem t31_6_1 : ∀ p ∈ ([[1, 1, 1, 1, 1, 1]] : List (List Int)), ∀ q ∈ shpL 6, ml_31 (x0 :: (Sl.ow (.lst [.int s, .int t])) :: (Sl.sh (.int a)) :: x3 :: x4 :: x5 :: x6 :: x7 :: x8 :: x9 :: x10 :: x11 :: (Sl.sh d12) :: x13 :: x14 :: (Sl.sh (.int (6 : Nat))) :: x16 :: x17 :: x18 :: x19 :: x20 :: x21 :: (Sl.sh (.lst ((shpL 6).map ti))) :: (Sl.sh (ti p)) :: (Sl.sh (ti q)) :: Sl.un :: Sl.un :: Sl.un :: Sl.un :: Sl.un :: Sl.un :: Sl.un :: Sl.un :: []) = .ok .nx (x0 :: (Sl.ow (.lst [.int s, .int t])) :: (Sl.sh (.int a)) :: x3 :: x4 :: x5 :: x6 :: x7 :: x8 :: x9 :: x10 :: x11 :: (Sl.sh d12) :: x13 :: x14 :: (Sl.sh (.int (6 : Nat))) :: x16 :: x17 :: x18 :: x19 :: x20 :: x21 :: (Sl.sh (.lst ((shpL 6).map ti))) :: (Sl.sh (ti p)) :: (Sl.sh (ti q)) :: Sl.un :: Sl.un :: Sl.un :: Sl.un :: Sl.un :: Sl.un :: Sl.un :: Sl.un :: []) := by
  have h : ([[1, 1, 1, 1, 1, 1]] : List (List Int)).map (fun p => (shpL 6).map fun q => ml_31 (x0 :: (Sl.ow (.lst [.int s, .int t])) :: (Sl.sh (.int a)) :: x3 :: x4 :: x5 :: x6 :: x7 :: x8 :: x9 :: x10 :: x11 :: (Sl.sh d12) :: x13 :: x14 :: (Sl.sh (.int (6 : Nat))) :: x16 :: x17 :: x18 :: x19 :: x20 :: x21 :: (Sl.sh (.lst ((shpL 6).map ti))) :: (Sl.sh (ti p)) :: (Sl.sh (ti q)) :: Sl.un :: Sl.un :: Sl.un :: Sl.un :: Sl.un :: Sl.un :: Sl.un :: Sl.un :: [])) = ([[1, 1, 1, 1, 1, 1]] : List (List Int)).map (fun p => (shpL 6).map fun q => Out.ok Fl.nx (x0 :: (Sl.ow (.lst [.int s, .int t])) :: (Sl.sh (.int a)) :: x3 :: x4 :: x5 :: x6 :: x7 :: x8 :: x9 :: x10 :: x11 :: (Sl.sh d12) :: x13 :: x14 :: (Sl.sh (.int (6 : Nat))) :: x16 :: x17 :: x18 :: x19 :: x20 :: x21 :: (Sl.sh (.lst ((shpL 6).map ti))) :: (Sl.sh (ti p)) :: (Sl.sh (ti q)) :: Sl.un :: Sl.un :: Sl.un :: Sl.un :: Sl.un :: Sl.un :: Sl.un :: Sl.un :: [])) := by kernel_rfl
  intro p hp q hq
  exact map_at (map_at h p hp) q hq
theorem t31_6 : ∀ p ∈ shpL 6, ∀ q ∈ shpL 6, ml_31 (x0 :: (Sl.ow (.lst [.int s, .int t])) :: (Sl.sh (.int a)) :: x3 :: x4 :: x5 :: x6 :: x7 :: x8 :: x9 :: x10 :: x11 :: (Sl.sh d12) :: x13 :: x14 :: (Sl.sh (.int (6 : Nat))) :: x16 :: x17 :: x18 :: x19 :: x20 :: x21 :: (Sl.sh (.lst ((shpL 6).map ti))) :: (Sl.sh (ti p)) :: (Sl.sh (ti q)) :: Sl.un :: Sl.un :: Sl.un :: Sl.un :: Sl.un :: Sl.un :: Sl.un :: Sl.un :: []) = .ok .nx (x0 :: (Sl.ow (.lst [.int s, .int t])) :: (Sl.sh (.int a)) :: x3 :: x4 :: x5 :: x6 :: x7 :: x8 :: x9 :: x10 :: x11 :: (Sl.sh d12) :: x13 :: x14 :: (Sl.sh (.int (6 : Nat))) :: x16 :: x17 :: x18 :: x19 :: x20 :: x21 :: (Sl.sh (.lst ((shpL 6).map ti))) :: (Sl.sh (ti p)) :: (Sl.sh (ti q)) :: Sl.un :: Sl.un :: Sl.un :: Sl.un :: Sl.un :: Sl.un :: Sl.un :: Sl.un :: []) := by
  intro p hp q hq
  have e : shpL 6 = ([[6], [5, 1], [4, 2], [4, 1, 1], [3, 3], [3, 2, 1], [3, 1, 1, 1], [2, 2, 2], [2, 2, 1, 1], [2, 1, 1, 1, 1]] : List (List Int)) ++ (([[1, 1, 1, 1, 1, 1]] : List (List Int))) := rfl
  rw [e] at hp
  rcases List.mem_append.mp hp with hp | hp
  · exact t31_6_0 x0 x3 x4 x5 x6 x7 x8 x9 x10 x11 x13 x14 x16 x17 x18 x19 x20 x21 d12 s t a p hp q hq
  · skip
    exact t31_6_1 x0 x3 x4 x5 x6 x7 x8 x9 x10 x11 x13 x14 x16 x17 x18 x19 x20 x21 d12 s t a p hp q hq
theorem t31_7_0 : ∀ p ∈ ([[7], [6, 1], [5, 2], [5, 1, 1], [4, 3], [4, 2, 1], [4, 1, 1, 1], [3, 3, 1]] : List (List Int)), ∀ q ∈ shpL 7, ml_31 (x0 :: (Sl.ow (.lst [.int s, .int t])) :: (Sl.sh (.int a)) :: x3 :: x4 :: x5 :: x6 :: x7 :: x8 :: x9 :: x10 :: x11 :: (Sl.sh d12) :: x13 :: x14 :: (Sl.sh (.int (7 : Nat))) :: x16 :: x17 :: x18 :: x19 :: x20 :: x21 :: (Sl.sh (.lst ((shpL 7).map ti))) :: (Sl.sh (ti p)) :: (Sl.sh (ti q)) :: Sl.un :: Sl.un :: Sl.un :: Sl.un :: Sl.un :: Sl.un :: Sl.un :: Sl.un :: []) = .ok .nx (x0 :: (Sl.ow (.lst [.int s, .int t])) :: (Sl.sh (.int a)) :: x3 :: x4 :: x5 :: x6 :: x7 :: x8 :: x9 :: x10 :: x11 :: (Sl.sh d12) :: x13 :: x14 :: (Sl.sh (.int (7 : Nat))) :: x16 :: x17 :: x18 :: x19 :: x20 :: x21 :: (Sl.sh (.lst ((shpL 7).map ti))) :: (Sl.sh (ti p)) :: (Sl.sh (ti q)) :: Sl.un :: Sl.un :: Sl.un :: Sl.un :: Sl.un :: Sl.un :: Sl.un :: Sl.un :: []) := by
  have h : ([[7], [6, 1], [5, 2], [5, 1, 1], [4, 3], [4, 2, 1], [4, 1, 1, 1], [3, 3, 1]] : List (List Int)).map (fun p => (shpL 7).map fun q => ml_31 (x0 :: (Sl.ow (.lst [.int s, .int t])) :: (Sl.sh (.int a)) :: x3 :: x4 :: x5 :: x6 :: x7 :: x8 :: x9 :: x10 :: x11 :: (Sl.sh d12) :: x13 :: x14 :: (Sl.sh (.int (7 : Nat))) :: x16 :: x17 :: x18 :: x19 :: x20 :: x21 :: (Sl.sh (.lst ((shpL 7).map ti))) :: (Sl.sh (ti p)) :: (Sl.sh (ti q)) :: Sl.un :: Sl.un :: Sl.un :: Sl.un :: Sl.un :: Sl.un :: Sl.un :: Sl.un :: [])) = ([[7], [6, 1], [5, 2], [5, 1, 1], [4, 3], [4, 2, 1], [4, 1, 1, 1], [3, 3, 1]] : List (List Int)).map (fun p => (shpL 7).map fun q => Out.ok Fl.nx (x0 :: (Sl.ow (.lst [.int s, .int t])) :: (Sl.sh (.int a)) :: x3 :: x4 :: x5 :: x6 :: x7 :: x8 :: x9 :: x10 :: x11 :: (Sl.sh d12) :: x13 :: x14 :: (Sl.sh (.int (7 : Nat))) :: x16 :: x17 :: x18 :: x19 :: x20 :: x21 :: (Sl.sh (.lst ((shpL 7).map ti))) :: (Sl.sh (ti p)) :: (Sl.sh (ti q)) :: Sl.un :: Sl.un :: Sl.un :: Sl.un :: Sl.un :: Sl.un :: Sl.un :: Sl.un :: [])) := by kernel_rfl
  intro p hp q hq
  exact map_at (map_at h p hp) q hq
theorem t31_7_1 : ∀ p ∈ ([[3, 2, 2], [3, 2, 1, 1], [3, 1, 1, 1, 1], [2, 2, 2, 1], [2, 2, 1, 1, 1], [2, 1, 1, 1, 1, 1], [1, 1, 1, 1, 1, 1, 1]] : List (List Int)), ∀ q ∈ shpL 7, ml_31 (x0 :: (Sl.ow (.lst [.int s, .int t])) :: (Sl.sh (.int a)) :: x3 :: x4 :: x5 :: x6 :: x7 :: x8 :: x9 :: x10 :: x11 :: (Sl.sh d12) :: x13 :: x14 :: (Sl.sh (.int (7 : Nat))) :: x16 :: x17 :: x18 :: x19 :: x20 :: x21 :: (Sl.sh (.lst ((shpL 7).map ti))) :: (Sl.sh (ti p)) :: (Sl.sh (ti q)) :: Sl.un :: Sl.un :: Sl.un :: Sl.un :: Sl.un :: Sl.un :: Sl.un :: Sl.un :: []) = .ok .nx (x0 :: (Sl.ow (.lst [.int s, .int t])) :: (Sl.sh (.int a)) :: x3 :: x4 :: x5 :: x6 :: x7 :: x8 :: x9 :: x10 :: x11 :: (Sl.sh d12) :: x13 :: x14 :: (Sl.sh (.int (7 : Nat))) :: x16 :: x17 :: x18 :: x19 :: x20 :: x21 :: (Sl.sh (.lst ((shpL 7).map ti))) :: (Sl.sh (ti p)) :: (Sl.sh (ti q)) :: Sl.un :: Sl.un :: Sl.un :: Sl.un :: Sl.un :: Sl.un :: Sl.un :: Sl.un :: []) := by
  have h : ([[3, 2, 2], [3, 2, 1, 1], [3, 1, 1, 1, 1], [2, 2, 2, 1], [2, 2, 1, 1, 1], [2, 1, 1, 1, 1, 1], [1, 1, 1, 1, 1, 1, 1]] : List (List Int)).map (fun p => (shpL 7).map fun q => ml_31 (x0 :: (Sl.ow (.lst [.int s, .int t])) :: (Sl.sh (.int a)) :: x3 :: x4 :: x5 :: x6 :: x7 :: x8 :: x9 :: x10 :: x11 :: (Sl.sh d12) :: x13 :: x14 :: (Sl.sh (.int (7 : Nat))) :: x16 :: x17 :: x18 :: x19 :: x20 :: x21 :: (Sl.sh (.lst ((shpL 7).map ti))) :: (Sl.sh (ti p)) :: (Sl.sh (ti q)) :: Sl.un :: Sl.un :: Sl.un :: Sl.un :: Sl.un :: Sl.un :: Sl.un :: Sl.un :: [])) = ([[3, 2, 2], [3, 2, 1, 1], [3, 1, 1, 1, 1], [2, 2, 2, 1], [2, 2, 1, 1, 1], [2, 1, 1, 1, 1, 1], [1, 1, 1, 1, 1, 1, 1]] : List (List Int)).map (fun p => (shpL 7).map fun q => Out.ok Fl.nx (x0 :: (Sl.ow (.lst [.int s, .int t])) :: (Sl.sh (.int a)) :: x3 :: x4 :: x5 :: x6 :: x7 :: x8 :: x9 :: x10 :: x11 :: (Sl.sh d12) :: x13 :: x14 :: (Sl.sh (.int (7 : Nat))) :: x16 :: x17 :: x18 :: x19 :: x20 :: x21 :: (Sl.sh (.lst ((shpL 7).map ti))) :: (Sl.sh (ti p)) :: (Sl.sh (ti q)) :: Sl.un :: Sl.un :: Sl.un :: Sl.un :: Sl.un :: Sl.un :: Sl.un :: Sl.un :: [])) := by kernel_rfl
  intro p hp q hq
  exact map_at (map_at h p hp) q hq
theorem t31_7 : ∀ p ∈ shpL 7, ∀ q ∈ shpL 7, ml_31 (x0 :: (Sl.ow (.lst [.int s, .int t])) :: (Sl.sh (.int a)) :: x3 :: x4 :: x5 :: x6 :: x7 :: x8 :: x9 :: x10 :: x11 :: (Sl.sh d12) :: x13 :: x14 :: (Sl.sh (.int (7 : Nat))) :: x16 :: x17 :: x18 :: x19 :: x20 :: x21 :: (Sl.sh (.lst ((shpL 7).map ti))) :: (Sl.sh (ti p)) :: (Sl.sh (ti q)) :: Sl.un :: Sl.un :: Sl.un :: Sl.un :: Sl.un :: Sl.un :: Sl.un :: Sl.un :: []) = .ok .nx (x0 :: (Sl.ow (.lst [.int s, .int t])) :: (Sl.sh (.int a)) :: x3 :: x4 :: x5 :: x6 :: x7 :: x8 :: x9 :: x10 :: x11 :: (Sl.sh d12) :: x13 :: x14 :: (Sl.sh (.int (7 : Nat))) :: x16 :: x17 :: x18 :: x19 :: x20 :: x21 :: (Sl.sh (.lst ((shpL 7).map ti))) :: (Sl.sh (ti p)) :: (Sl.sh (ti q)) :: Sl.un :: Sl.un :: Sl.un :: Sl.un :: Sl.un :: Sl.un :: Sl.un :: Sl.un :: []) := by
  intro p hp q hq
  have e : shpL 7 = ([[7], [6, 1], [5, 2], [5, 1, 1], [4, 3], [4, 2, 1], [4, 1, 1, 1], [3, 3, 1]] : List (List Int)) ++ (([[3, 2, 2], [3, 2, 1, 1], [3, 1, 1, 1, 1], [2, 2, 2, 1], [2, 2, 1, 1, 1], [2, 1, 1, 1, 1, 1], [1, 1, 1, 1, 1, 1, 1]] : List (List Int))) := rfl
  rw [e] at hp
  rcases List.mem_append.mp hp with hp | hp
  · exact t31_7_0 x0 x3 x4 x5 x6 x7 x8 x9 x10 x11 x13 x14 x16 x17 x18 x19 x20 x21 d12 s t a p hp q hq
  · skip
    exact t31_7_1 x0 x3 x4 x5 x6 x7 x8 x9 x10 x11 x13 x14 x16 x17 x18 x19 x20 x21 d12 s t a p hp q hq
theorem t31_8_0 : ∀ p ∈ ([[8], [7, 1], [6, 2], [6, 1, 1], [5, 3]] : List (List Int)), ∀ q ∈ shpL 8, ml_31 (x0 :: (Sl.ow (.lst [.int s, .int t])) :: (Sl.sh (.int a)) :: x3 :: x4 :: x5 :: x6 :: x7 :: x8 :: x9 :: x10 :: x11 :: (Sl.sh d12) :: x13 :: x14 :: (Sl.sh (.int (8 : Nat))) :: x16 :: x17 :: x18 :: x19 :: x20 :: x21 :: (Sl.sh (.lst ((shpL 8).map ti))) :: (Sl.sh (ti p)) :: (Sl.sh (ti q)) :: Sl.un :: Sl.un :: Sl.un :: Sl.un :: Sl.un :: Sl.un :: Sl.un :: Sl.un :: []) = .ok .nx (x0 :: (Sl.ow (.lst [.int s, .int t])) :: (Sl.sh (.int a)) :: x3 :: x4 :: x5 :: x6 :: x7 :: x8 :: x9 :: x10 :: x11 :: (Sl.sh d12) :: x13 :: x14 :: (Sl.sh (.int (8 : Nat))) :: x16 :: x17 :: x18 :: x19 :: x20 :: x21 :: (Sl.sh (.lst ((shpL 8).map ti))) :: (Sl.sh (ti p)) :: (Sl.sh (ti q)) :: Sl.un :: Sl.un :: Sl.un :: Sl.un :: Sl.un :: Sl.un :: Sl.un :: Sl.un :: []) := by
  have h : ([[8], [7, 1], [6, 2], [6, 1, 1], [5, 3]] : List (List Int)).map (fun p => (shpL 8).map fun q => ml_31 (x0 :: (Sl.ow (.lst [.int s, .int t])) :: (Sl.sh (.int a)) :: x3 :: x4 :: x5 :: x6 :: x7 :: x8 :: x9 :: x10 :: x11 :: (Sl.sh d12) :: x13 :: x14 :: (Sl.sh (.int (8 : Nat))) :: x16 :: x17 :: x18 :: x19 :: x20 :: x21 :: (Sl.sh (.lst ((shpL 8).map ti))) :: (Sl.sh (ti p)) :: (Sl.sh (ti q)) :: Sl.un :: Sl.un :: Sl.un :: Sl.un :: Sl.un :: Sl.un :: Sl.un :: Sl.un :: [])) = ([[8], [7, 1], [6, 2], [6, 1, 1], [5, 3]] : List (List Int)).map (fun p => (shpL 8).map fun q => Out.ok Fl.nx (x0 :: (Sl.ow (.lst [.int s, .int t])) :: (Sl.sh (.int a)) :: x3 :: x4 :: x5 :: x6 :: x7 :: x8 :: x9 :: x10 :: x11 :: (Sl.sh d12) :: x13 :: x14 :: (Sl.sh (.int (8 : Nat))) :: x16 :: x17 :: x18 :: x19 :: x20 :: x21 :: (Sl.sh (.lst ((shpL 8).map ti))) :: (Sl.sh (ti p)) :: (Sl.sh (ti q)) :: Sl.un :: Sl.un :: Sl.un :: Sl.un :: Sl.un :: Sl.un :: Sl.un :: Sl.un :: [])) := by kernel_rfl
  intro p hp q hq
  exact map_at (map_at h p hp) q hq
theorem t31_8_1 : ∀ p ∈ ([[5, 2, 1], [5, 1, 1, 1], [4, 4], [4, 3, 1], [4, 2, 2]] : List (List Int)), ∀ q ∈ shpL 8, ml_31 (x0 :: (Sl.ow (.lst [.int s, .int t])) :: (Sl.sh (.int a)) :: x3 :: x4 :: x5 :: x6 :: x7 :: x8 :: x9 :: x10 :: x11 :: (Sl.sh d12) :: x13 :: x14 :: (Sl.sh (.int (8 : Nat))) :: x16 :: x17 :: x18 :: x19 :: x20 :: x21 :: (Sl.sh (.lst ((shpL 8).map ti))) :: (Sl.sh (ti p)) :: (Sl.sh (ti q)) :: Sl.un :: Sl.un :: Sl.un :: Sl.un :: Sl.un :: Sl.un :: Sl.un :: Sl.un :: []) = .ok .nx (x0 :: (Sl.ow (.lst [.int s, .int t])) :: (Sl.sh (.int a)) :: x3 :: x4 :: x5 :: x6 :: x7 :: x8 :: x9 :: x10 :: x11 :: (Sl.sh d12) :: x13 :: x14 :: (Sl.sh (.int (8 : Nat))) :: x16 :: x17 :: x18 :: x19 :: x20 :: x21 :: (Sl.sh (.lst ((shpL 8).map ti))) :: (Sl.sh (ti p)) :: (Sl.sh (ti q)) :: Sl.un :: Sl.un :: Sl.un :: Sl.un :: Sl.un :: Sl.un :: Sl.un :: Sl.un :: []) := by
  have h : ([[5, 2, 1], [5, 1, 1, 1], [4, 4], [4, 3, 1], [4, 2, 2]] : List (List Int)).map (fun p => (shpL 8).map fun q => ml_31 (x0 :: (Sl.ow (.lst [.int s, .int t])) :: (Sl.sh (.int a)) :: x3 :: x4 :: x5 :: x6 :: x7 :: x8 :: x9 :: x10 :: x11 :: (Sl.sh d12) :: x13 :: x14 :: (Sl.sh (.int (8 : Nat))) :: x16 :: x17 :: x18 :: x19 :: x20 :: x21 :: (Sl.sh (.lst ((shpL 8).map ti))) :: (Sl.sh (ti p)) :: (Sl.sh (ti q)) :: Sl.un :: Sl.un :: Sl.un :: Sl.un :: Sl.un :: Sl.un :: Sl.un :: Sl.un :: [])) = ([[5, 2, 1], [5, 1, 1, 1], [4, 4], [4, 3, 1], [4, 2, 2]] : List (List Int)).map (fun p => (shpL 8).map fun q => Out.ok Fl.nx (x0 :: (Sl.ow (.lst [.int s, .int t])) :: (Sl.sh (.int a)) :: x3 :: x4 :: x5 :: x6 :: x7 :: x8 :: x9 :: x10 :: x11 :: (Sl.sh d12) :: x13 :: x14 :: (Sl.sh (.int (8 : Nat))) :: x16 :: x17 :: x18 :: x19 :: x20 :: x21 :: (Sl.sh (.lst ((shpL 8).map ti))) :: (Sl.sh (ti p)) :: (Sl.sh (ti q)) :: Sl.un :: Sl.un :: Sl.un :: Sl.un :: Sl.un :: Sl.un :: Sl.un :: Sl.un :: [])) := by kernel_rfl
  intro p hp q hq
  exact map_at (map_at h p hp) q hq
theorem t31_8_2 : ∀ p ∈ ([[4, 2, 1, 1], [4, 1, 1, 1, 1], [3, 3, 2], [3, 3, 1, 1], [3, 2, 2, 1]] : List (List Int)), ∀ q ∈ shpL 8, ml_31 (x0 :: (Sl.ow (.lst [.int s, .int t])) :: (Sl.sh (.int a)) :: x3 :: x4 :: x5 :: x6 :: x7 :: x8 :: x9 :: x10 :: x11 :: (Sl.sh d12) :: x13 :: x14 :: (Sl.sh (.int (8 : Nat))) :: x16 :: x17 :: x18 :: x19 :: x20 :: x21 :: (Sl.sh (.lst ((shpL 8).map ti))) :: (Sl.sh (ti p)) :: (Sl.sh (ti q)) :: Sl.un :: Sl.un :: Sl.un :: Sl.un :: Sl.un :: Sl.un :: Sl.un :: Sl.un :: []) = .ok .nx (x0 :: (Sl.ow (.lst [.int s, .int t])) :: (Sl.sh (.int a)) :: x3 :: x4 :: x5 :: x6 :: x7 :: x8 :: x9 :: x10 :: x11 :: (Sl.sh d12) :: x13 :: x14 :: (Sl.sh (.int (8 : Nat))) :: x16 :: x17 :: x18 :: x19 :: x20 :: x21 :: (Sl.sh (.lst ((shpL 8).map ti))) :: (Sl.sh (ti p)) :: (Sl.sh (ti q)) :: Sl.un :: Sl.un :: Sl.un :: Sl.un :: Sl.un :: Sl.un :: Sl.un :: Sl.un :: []) := by
  have h : ([[4, 2, 1, 1], [4, 1, 1, 1, 1], [3, 3, 2], [3, 3, 1, 1], [3, 2, 2, 1]] : List (List Int)).map (fun p => (shpL 8).map fun q => ml_31 (x0 :: (Sl.ow (.lst [.int s, .int t])) :: (Sl.sh (.int a)) :: x3 :: x4 :: x5 :: x6 :: x7 :: x8 :: x9 :: x10 :: x11 :: (Sl.sh d12) :: x13 :: x14 :: (Sl.sh (.int (8 : Nat))) :: x16 :: x17 :: x18 :: x19 :: x20 :: x21 :: (Sl.sh (.lst ((shpL 8).map ti))) :: (Sl.sh (ti p)) :: (Sl.sh (ti q)) :: Sl.un :: Sl.un :: Sl.un :: Sl.un :: Sl.un :: Sl.un :: Sl.un :: Sl.un :: [])) = ([[4, 2, 1, 1], [4, 1, 1, 1, 1], [3, 3, 2], [3, 3, 1, 1], [3, 2, 2, 1]] : List (List Int)).map (fun p => (shpL 8).map fun q => Out.ok Fl.nx (x0 :: (Sl.ow (.lst [.int s, .int t])) :: (Sl.sh (.int a)) :: x3 :: x4 :: x5 :: x6 :: x7 :: x8 :: x9 :: x10 :: x11 :: (Sl.sh d12) :: x13 :: x14 :: (Sl.sh (.int (8 : Nat))) :: x16 :: x17 :: x18 :: x19 :: x20 :: x21 :: (Sl.sh (.lst ((shpL 8).map ti))) :: (Sl.sh (ti p)) :: (Sl.sh (ti q)) :: Sl.un :: Sl.un :: Sl.un :: Sl.un :: Sl.un :: Sl.un :: Sl.un :: Sl.un :: [])) := by kernel_rfl
  intro p hp q hq
  exact map_at (map_at h p hp) q hq
theorem t31_8_3 : ∀ p ∈ ([[3, 2, 1, 1, 1], [3, 1, 1, 1, 1, 1], [2, 2, 2, 2], [2, 2, 2, 1, 1], [2, 2, 1, 1, 1, 1]] : List (List Int)), ∀ q ∈ shpL 8, ml_31 (x0 :: (Sl.ow (.lst [.int s, .int t])) :: (Sl.sh (.int a)) :: x3 :: x4 :: x5 :: x6 :: x7 :: x8 :: x9 :: x10 :: x11 :: (Sl.sh d12) :: x13 :: x14 :: (Sl.sh (.int (8 : Nat))) :: x16 :: x17 :: x18 :: x19 :: x20 :: x21 :: (Sl.sh (.lst ((shpL 8).map ti))) :: (Sl.sh (ti p)) :: (Sl.sh (ti q)) :: Sl.un :: Sl.un :: Sl.un :: Sl.un :: Sl.un :: Sl.un :: Sl.un :: Sl.un :: []) = .ok .nx (x0 :: (Sl.ow (.lst [.int s, .int t])) :: (Sl.sh (.int a)) :: x3 :: x4 :: x5 :: x6 :: x7 :: x8 :: x9 :: x10 :: x11 :: (Sl.sh d12) :: x13 :: x14 :: (Sl.sh (.int (8 : Nat))) :: x16 :: x17 :: x18 :: x19 :: x20 :: x21 :: (Sl.sh (.lst ((shpL 8).map ti))) :: (Sl.sh (ti p)) :: (Sl.sh (ti q)) :: Sl.un :: Sl.un :: Sl.un :: Sl.un :: Sl.un :: Sl.un :: Sl.un :: Sl.un :: []) := by
  have h : ([[3, 2, 1, 1, 1], [3, 1, 1, 1, 1, 1], [2, 2, 2, 2], [2, 2, 2, 1, 1], [2, 2, 1, 1, 1, 1]] : List (List Int)).map (fun p => (shpL 8).map fun q => ml_31 (x0 :: (Sl.ow (.lst [.int s, .int t])) :: (Sl.sh (.int a)) :: x3 :: x4 :: x5 :: x6 :: x7 :: x8 :: x9 :: x10 :: x11 :: (Sl.sh d12) :: x13 :: x14 :: (Sl.sh (.int (8 : Nat))) :: x16 :: x17 :: x18 :: x19 :: x20 :: x21 :: (Sl.sh (.lst ((shpL 8).map ti))) :: (Sl.sh (ti p)) :: (Sl.sh (ti q)) :: Sl.un :: Sl.un :: Sl.un :: Sl.un :: Sl.un :: Sl.un :: Sl.un :: Sl.un :: [])) = ([[3, 2, 1, 1, 1], [3, 1, 1, 1, 1, 1], [2, 2, 2, 2], [2, 2, 2, 1, 1], [2, 2, 1, 1, 1, 1]] : List (List Int)).map (fun p => (shpL 8).map fun q => Out.ok Fl.nx (x0 :: (Sl.ow (.lst [.int s, .int t])) :: (Sl.sh (.int a)) :: x3 :: x4 :: x5 :: x6 :: x7 :: x8 :: x9 :: x10 :: x11 :: (Sl.sh d12) :: x13 :: x14 :: (Sl.sh (.int (8 : Nat))) :: x16 :: x17 :: x18 :: x19 :: x20 :: x21 :: (Sl.sh (.lst ((shpL 8).map ti))) :: (Sl.sh (ti p)) :: (Sl.sh (ti q)) :: Sl.un :: Sl.un :: Sl.un :: Sl.un :: Sl.un :: Sl.un :: Sl.un :: Sl.un :: [])) := by kernel_rfl
  intro p hp q hq
  exact map_at (map_at h p hp) q hq
theorem t31_8_4 : ∀ p ∈ ([[2, 1, 1, 1, 1, 1, 1], [1, 1, 1, 1, 1, 1, 1, 1]] : List (List Int)), ∀ q ∈ shpL 8, ml_31 (x0 :: (Sl.ow (.lst [.int s, .int t])) :: (Sl.sh (.int a)) :: x3 :: x4 :: x5 :: x6 :: x7 :: x8 :: x9 :: x10 :: x11 :: (Sl.sh d12) :: x13 :: x14 :: (Sl.sh (.int (8 : Nat))) :: x16 :: x17 :: x18 :: x19 :: x20 :: x21 :: (Sl.sh (.lst ((shpL 8).map ti))) :: (Sl.sh (ti p)) :: (Sl.sh (ti q)) :: Sl.un :: Sl.un :: Sl.un :: Sl.un :: Sl.un :: Sl.un :: Sl.un :: Sl.un :: []) = .ok .nx (x0 :: (Sl.ow (.lst [.int s, .int t])) :: (Sl.sh (.int a)) :: x3 :: x4 :: x5 :: x6 :: x7 :: x8 :: x9 :: x10 :: x11 :: (Sl.sh d12) :: x13 :: x14 :: (Sl.sh (.int (8 : Nat))) :: x16 :: x17 :: x18 :: x19 :: x20 :: x21 :: (Sl.sh (.lst ((shpL 8).map ti))) :: (Sl.sh (ti p)) :: (Sl.sh (ti q)) :: Sl.un :: Sl.un :: Sl.un :: Sl.un :: Sl.un :: Sl.un :: Sl.un :: Sl.un :: []) := by
  have h : ([[2, 1, 1, 1, 1, 1, 1], [1, 1, 1, 1, 1, 1, 1, 1]] : List (List Int)).map (fun p => (shpL 8).map fun q => ml_31 (x0 :: (Sl.ow (.lst [.int s, .int t])) :: (Sl.sh (.int a)) :: x3 :: x4 :: x5 :: x6 :: x7 :: x8 :: x9 :: x10 :: x11 :: (Sl.sh d12) :: x13 :: x14 :: (Sl.sh (.int (8 : Nat))) :: x16 :: x17 :: x18 :: x19 :: x20 :: x21 :: (Sl.sh (.lst ((shpL 8).map ti))) :: (Sl.sh (ti p)) :: (Sl.sh (ti q)) :: Sl.un :: Sl.un :: Sl.un :: Sl.un :: Sl.un :: Sl.un :: Sl.un :: Sl.un :: [])) = ([[2, 1, 1, 1, 1, 1, 1], [1, 1, 1, 1, 1, 1, 1, 1]] : List (List Int)).map (fun p => (shpL 8).map fun q => Out.ok Fl.nx (x0 :: (Sl.ow (.lst [.int s, .int t])) :: (Sl.sh (.int a)) :: x3 :: x4 :: x5 :: x6 :: x7 :: x8 :: x9 :: x10 :: x11 :: (Sl.sh d12) :: x13 :: x14 :: (Sl.sh (.int (8 : Nat))) :: x16 :: x17 :: x18 :: x19 :: x20 :: x21 :: (Sl.sh (.lst ((shpL 8).map ti))) :: (Sl.sh (ti p)) :: (Sl.sh (ti q)) :: Sl.un :: Sl.un :: Sl.un :: Sl.un :: Sl.un :: Sl.un :: Sl.un :: Sl.un :: [])) := by kernel_rfl
  intro p hp q hq
  exact map_at (map_at h p hp) q hq
theorem t31_8 : ∀ p ∈ shpL 8, ∀ q ∈ shpL 8, ml_31 (x0 :: (Sl.ow (.lst [.int s, .int t])) :: (Sl.sh (.int a)) :: x3 :: x4 :: x5 :: x6 :: x7 :: x8 :: x9 :: x10 :: x11 :: (Sl.sh d12) :: x13 :: x14 :: (Sl.sh (.int (8 : Nat))) :: x16 :: x17 :: x18 :: x19 :: x20 :: x21 :: (Sl.sh (.lst ((shpL 8).map ti))) :: (Sl.sh (ti p)) :: (Sl.sh (ti q)) :: Sl.un :: Sl.un :: Sl.un :: Sl.un :: Sl.un :: Sl.un :: Sl.un :: Sl.un :: []) = .ok .nx (x0 :: (Sl.ow (.lst [.int s, .int t])) :: (Sl.sh (.int a)) :: x3 :: x4 :: x5 :: x6 :: x7 :: x8 :: x9 :: x10 :: x11 :: (Sl.sh d12) :: x13 :: x14 :: (Sl.sh (.int (8 : Nat))) :: x16 :: x17 :: x18 :: x19 :: x20 :: x21 :: (Sl.sh (.lst ((shpL 8).map ti))) :: (Sl.sh (ti p)) :: (Sl.sh (ti q)) :: Sl.un :: Sl.un :: Sl.un :: Sl.un :: Sl.un :: Sl.un :: Sl.un :: Sl.un :: []) := by
  intro p hp q hq
  have e : shpL 8 = ([[8], [7, 1], [6, 2], [6, 1, 1], [5, 3]] : List (List Int)) ++ (([[5, 2, 1], [5, 1, 1, 1], [4, 4], [4, 3, 1], [4, 2, 2]] : List (List Int)) ++ (([[4, 2, 1, 1], [4, 1, 1, 1, 1], [3, 3, 2], [3, 3, 1, 1], [3, 2, 2, 1]] : List (List Int)) ++ (([[3, 2, 1, 1, 1], [3, 1, 1, 1, 1, 1], [2, 2, 2, 2], [2, 2, 2, 1, 1], [2, 2, 1, 1, 1, 1]] : List (List Int)) ++ (([[2, 1, 1, 1, 1, 1, 1], [1, 1, 1, 1, 1, 1, 1, 1]] : List (List Int)))))) := rfl
  rw [e] at hp
  rcases List.mem_append.mp hp with hp | hp
  · exact t31_8_0 x0 x3 x4 x5 x6 x7 x8 x9 x10 x11 x13 x14 x16 x17 x18 x19 x20 x21 d12 s t a p hp q hq
  · rcases List.mem_append.mp hp with hp | hp
    · exact t31_8_1 x0 x3 x4 x5 x6 x7 x8 x9 x10 x11 x13 x14 x16 x17 x18 x19 x20 x21 d12 s t a p hp q hq
    · rcases List.mem_append.mp hp with hp | hp
      · exact t31_8_2 x0 x3 x4 x5 x6 x7 x8 x9 x10 x11 x13 x14 x16 x17 x18 x19 x20 x21 d12 s t a p hp q hq
      · rcases List.mem_append.mp hp with hp | hp
        · exact t31_8_3 x0 x3 x4 x5 x6 x7 x8 x9 x10 x11 x13 x14 x16 x17 x18 x19 x20 x21 d12 s t a p hp q hq
        · skip
          exact t31_8_4 x0 x3 x4 x5 x6 x7 x8 x9 x10 x11 x13 x14 x16 x17 x18 x19 x20 x21 d12 s t a p hp q hq
theorem t31_9_0 : ∀ p ∈ ([[9], [8, 1], [7, 2], [7, 1, 1]] : List (List Int)), ∀ q ∈ shpL 9, ml_31 (x0 :: (Sl.ow (.lst [.int s, .int t])) :: (Sl.sh (.int a)) :: x3 :: x4 :: x5 :: x6 :: x7 :: x8 :: x9 :: x10 :: x11 :: (Sl.sh d12) :: x13 :: x14 :: (Sl.sh (.int (9 : Nat))) :: x16 :: x17 :: x18 :: x19 :: x20 :: x21 :: (Sl.sh (.lst ((shpL 9).map ti))) :: (Sl.sh (ti p)) :: (Sl.sh (ti q)) :: Sl.un :: Sl.un :: Sl.un :: Sl.un :: Sl.un :: Sl.un :: Sl.un :: Sl.un :: []) = .ok .nx (x0 :: (Sl.ow (.lst [.int s, .int t])) :: (Sl.sh (.int a)) :: x3 :: x4 :: x5 :: x6 :: x7 :: x8 :: x9 :: x10 :: x11 :: (Sl.sh d12) :: x13 :: x14 :: (Sl.sh (.int (9 : Nat))) :: x16 :: x17 :: x18 :: x19 :: x20 :: x21 :: (Sl.sh (.lst ((shpL 9).map ti))) :: (Sl.sh (ti p)) :: (Sl.sh (ti q)) :: Sl.un :: Sl.un :: Sl.un :: Sl.un :: Sl.un :: Sl.un :: Sl.un :: Sl.un :: []) := by
  have h : ([[9], [8, 1], [7, 2], [7, 1, 1]] : List (List Int)).map (fun p => (shpL 9).map fun q => ml_31 (x0 :: (Sl.ow (.lst [.int s, .int t])) :: (Sl.sh (.int a)) :: x3 :: x4 :: x5 :: x6 :: x7 :: x8 :: x9 :: x10 :: x11 :: (Sl.sh d12) :: x13 :: x14 :: (Sl.sh (.int (9 : Nat))) :: x16 :: x17 :: x18 :: x19 :: x20 :: x21 :: (Sl.sh (.lst ((shpL 9).map ti))) :: (Sl.sh (ti p)) :: (Sl.sh (ti q)) :: Sl.un :: Sl.un :: Sl.un :: Sl.un :: Sl.un :: Sl.un :: Sl.un :: Sl.un :: [])) = ([[9], [8, 1], [7, 2], [7, 1, 1]] : List (List Int)).map (fun p => (shpL 9).map fun q => Out.ok Fl.nx (x0 :: (Sl.ow (.lst [.int s, .int t])) :: (Sl.sh (.int a)) :: x3 :: x4 :: x5 :: x6 :: x7 :: x8 :: x9 :: x10 :: x11 :: (Sl.sh d12) :: x13 :: x14 :: (Sl.sh (.int (9 : Nat))) :: x16 :: x17 :: x18 :: x19 :: x20 :: x21 :: (Sl.sh (.lst ((shpL 9).map ti))) :: (Sl.sh (ti p)) :: (Sl.sh (ti q)) :: Sl.un :: Sl.un :: Sl.un :: Sl.un :: Sl.un :: Sl.un :: Sl.un :: Sl.un :: [])) := by kernel_rfl
  intro p hp q hq
  exact map_at (map_at h p hp) q hq
theorem t31_9_1 : ∀ p ∈ ([[6, 3], [6, 2, 1], [6, 1, 1, 1], [5, 4]] : List (List Int)), ∀ q ∈ shpL 9, ml_31 (x0 :: (Sl.ow (.lst [.int s, .int t])) :: (Sl.sh (.int a)) :: x3 :: x4 :: x5 :: x6 :: x7 :: x8 :: x9 :: x10 :: x11 :: (Sl.sh d12) :: x13 :: x14 :: (Sl.sh (.int (9 : Nat))) :: x16 :: x17 :: x18 :: x19 :: x20 :: x21 :: (Sl.sh (.lst ((shpL 9).map ti))) :: (Sl.sh (ti p)) :: (Sl.sh (ti q)) :: Sl.un :: Sl.un :: Sl.un :: Sl.un :: Sl.un :: Sl.un :: Sl.un :: Sl.un :: []) = .ok .nx (x0 :: (Sl.ow (.lst [.int s, .int t])) :: (Sl.sh (.int a)) :: x3 :: x4 :: x5 :: x6 :: x7 :: x8 :: x9 :: x10 :: x11 :: (Sl.sh d12) :: x13 :: x14 :: (Sl.sh (.int (9 : Nat))) :: x16 :: x17 :: x18 :: x19 :: x20 :: x21 :: (Sl.sh (.lst ((shpL 9).map ti))) :: (Sl.sh (ti p)) :: (Sl.sh (ti q)) :: Sl.un :: Sl.un :: Sl.un :: Sl.un :: Sl.un :: Sl.un :: Sl.un :: Sl.un :: []) := by
  have h : ([[6, 3], [6, 2, 1], [6, 1, 1, 1], [5, 4]] : List (List Int)).map (fun p => (shpL 9).map fun q => ml_31 (x0 :: (Sl.ow (.lst [.int s, .int t])) :: (Sl.sh (.int a)) :: x3 :: x4 :: x5 :: x6 :: x7 :: x8 :: x9 :: x10 :: x11 :: (Sl.sh d12) :: x13 :: x14 :: (Sl.sh (.int (9 : Nat))) :: x16 :: x17 :: x18 :: x19 :: x20 :: x21 :: (Sl.sh (.lst ((shpL 9).map ti))) :: (Sl.sh (ti p)) :: (Sl.sh (ti q)) :: Sl.un :: Sl.un :: Sl.un :: Sl.un :: Sl.un :: Sl.un :: Sl.un :: Sl.un :: [])) = ([[6, 3], [6, 2, 1], [6, 1, 1, 1], [5, 4]] : List (List Int)).map (fun p => (shpL 9).map fun q => Out.ok Fl.nx (x0 :: (Sl.ow (.lst [.int s, .int t])) :: (Sl.sh (.int a)) :: x3 :: x4 :: x5 :: x6 :: x7 :: x8 :: x9 :: x10 :: x11 :: (Sl.sh d12) :: x13 :: x14 :: (Sl.sh (.int (9 : Nat))) :: x16 :: x17 :: x18 :: x19 :: x20 :: x21 :: (Sl.sh (.lst ((shpL 9).map ti))) :: (Sl.sh (ti p)) :: (Sl.sh (ti q)) :: Sl.un :: Sl.un :: Sl.un :: Sl.un :: Sl.un :: Sl.un :: Sl.un :: Sl.un :: [])) := by kernel_rfl
  intro p hp q hq
  exact map_at (map_at h p hp) q hq
theorem t31_9_2 : ∀ p ∈ ([[5, 3, 1], [5, 2, 2], [5, 2, 1, 1], [5, 1, 1, 1, 1]] : List (List Int)), ∀ q ∈ shpL 9, ml_31 (x0 :: (Sl.ow (.lst [.int s, .int t])) :: (Sl.sh (.int a)) :: x3 :: x4 :: x5 :: x6 :: x7 :: x8 :: x9 :: x10 :: x11 :: (Sl.sh d12) :: x13 :: x14 :: (Sl.sh (.int (9 : Nat))) :: x16 :: x17 :: x18 :: x19 :: x20 :: x21 :: (Sl.sh (.lst ((shpL 9).map ti))) :: (Sl.sh (ti p)) :: (Sl.sh (ti q)) :: Sl.un :: Sl.un :: Sl.un :: Sl.un :: Sl.un :: Sl.un :: Sl.un :: Sl.un :: []) = .ok .nx (x0 :: (Sl.ow (.lst [.int s, .int t])) :: (Sl.sh (.int a)) :: x3 :: x4 :: x5 :: x6 :: x7 :: x8 :: x9 :: x10 :: x11 :: (Sl.sh d12) :: x13 :: x14 :: (Sl.sh (.int (9 : Nat))) :: x16 :: x17 :: x18 :: x19 :: x20 :: x21 :: (Sl.sh (.lst ((shpL 9).map ti))) :: (Sl.sh (ti p)) :: (Sl.sh (ti q)) :: Sl.un :: Sl.un :: Sl.un :: Sl.un :: Sl.un :: Sl.un :: Sl.un :: Sl.un :: []) := by
  have h : ([[5, 3, 1], [5, 2, 2], [5, 2, 1, 1], [5, 1, 1, 1, 1]] : List (List Int)).map (fun p => (shpL 9).map fun q => ml_31 (x0 :: (Sl.ow (.lst [.int s, .int t])) :: (Sl.sh (.int a)) :: x3 :: x4 :: x5 :: x6 :: x7 :: x8 :: x9 :: x10 :: x11 :: (Sl.sh d12) :: x13 :: x14 :: (Sl.sh (.int (9 : Nat))) :: x16 :: x17 :: x18 :: x19 :: x20 :: x21 :: (Sl.sh (.lst ((shpL 9).map ti))) :: (Sl.sh (ti p)) :: (Sl.sh (ti q)) :: Sl.un :: Sl.un :: Sl.un :: Sl.un :: Sl.un :: Sl.un :: Sl.un :: Sl.un :: [])) = ([[5, 3, 1], [5, 2, 2], [5, 2, 1, 1], [5, 1, 1, 1, 1]] : List (List Int)).map (fun p => (shpL 9).map fun q => Out.ok Fl.nx (x0 :: (Sl.ow (.lst [.int s, .int t])) :: (Sl.sh (.int a)) :: x3 :: x4 :: x5 :: x6 :: x7 :: x8 :: x9 :: x10 :: x11 :: (Sl.sh d12) :: x13 :: x14 :: (Sl.sh (.int (9 : Nat))) :: x16 :: x17 :: x18 :: x19 :: x20 :: x21 :: (Sl.sh (.lst ((shpL 9).map ti))) :: (Sl.sh (ti p)) :: (Sl.sh (ti q)) :: Sl.un :: Sl.un :: Sl.un :: Sl.un :: Sl.un :: Sl.un :: Sl.un :: Sl.un :: [])) := by kernel_rfl
  intro p hp q hq
  exact map_at (map_at h p hp) q hq
theorem t31_9_3 : ∀ p ∈ ([[4, 4, 1], [4, 3, 2], [4, 3, 1, 1], [4, 2, 2, 1]] : List (List Int)), ∀ q ∈ shpL 9, ml_31 (x0 :: (Sl.ow (.lst [.int s, .int t])) :: (Sl.sh (.int a)) :: x3 :: x4 :: x5 :: x6 :: x7 :: x8 :: x9 :: x10 :: x11 :: (Sl.sh d12) :: x13 :: x14 :: (Sl.sh (.int (9 : Nat))) :: x16 :: x17 :: x18 :: x19 :: x20 :: x21 :: (Sl.sh (.lst ((shpL 9).map ti))) :: (Sl.sh (ti p)) :: (Sl.sh (ti q)) :: Sl.un :: Sl.un :: Sl.un :: Sl.un :: Sl.un :: Sl.un :: Sl.un :: Sl.un :: []) = .ok .nx (x0 :: (Sl.ow (.lst [.int s, .int t])) :: (Sl.sh (.int a)) :: x3 :: x4 :: x5 :: x6 :: x7 :: x8 :: x9 :: x10 :: x11 :: (Sl.sh d12) :: x13 :: x14 :: (Sl.sh (.int (9 : Nat))) :: x16 :: x17 :: x18 :: x19 :: x20 :: x21 :: (Sl.sh (.lst ((shpL 9).map ti))) :: (Sl.sh (ti p)) :: (Sl.sh (ti q)) :: Sl.un :: Sl.un :: Sl.un :: Sl.un :: Sl.un :: Sl.un :: Sl.un :: Sl.un :: []) := by
  have h : ([[4, 4, 1], [4, 3, 2], [4, 3, 1, 1], [4, 2, 2, 1]] : List (List Int)).map (fun p => (shpL 9).map fun q => ml_31 (x0 :: (Sl.ow (.lst [.int s, .int t])) :: (Sl.sh (.int a)) :: x3 :: x4 :: x5 :: x6 :: x7 :: x8 :: x9 :: x10 :: x11 :: (Sl.sh d12) :: x13 :: x14 :: (Sl.sh (.int (9 : Nat))) :: x16 :: x17 :: x18 :: x19 :: x20 :: x21 :: (Sl.sh (.lst ((shpL 9).map ti))) :: (Sl.sh (ti p)) :: (Sl.sh (ti q)) :: Sl.un :: Sl.un :: Sl.un :: Sl.un :: Sl.un :: Sl.un :: Sl.un :: Sl.un :: [])) = ([[4, 4, 1], [4, 3, 2], [4, 3, 1, 1], [4, 2, 2, 1]] : List (List Int)).map (fun p => (shpL 9).map fun q => Out.ok Fl.nx (x0 :: (Sl.ow (.lst [.int s, .int t])) :: (Sl.sh (.int a)) :: x3 :: x4 :: x5 :: x6 :: x7 :: x8 :: x9 :: x10 :: x11 :: (Sl.sh d12) :: x13 :: x14 :: (Sl.sh (.int (9 : Nat))) :: x16 :: x17 :: x18 :: x19 :: x20 :: x21 :: (Sl.sh (.lst ((shpL 9).map ti))) :: (Sl.sh (ti p)) :: (Sl.sh (ti q)) :: Sl.un :: Sl.un :: Sl.un :: Sl.un :: Sl.un :: Sl.un :: Sl.un :: Sl.un :: [])) := by kernel_rfl
  intro p hp q hq
  exact map_at (map_at h p hp) q hq
theorem t31_9_4 : ∀ p ∈ ([[4, 2, 1, 1, 1], [4, 1, 1, 1, 1, 1], [3, 3, 3], [3, 3, 2, 1]] : List (List Int)), ∀ q ∈ shpL 9, ml_31 (x0 :: (Sl.ow (.lst [.int s, .int t])) :: (Sl.sh (.int a)) :: x3 :: x4 :: x5 :: x6 :: x7 :: x8 :: x9 :: x10 :: x11 :: (Sl.sh d12) :: x13 :: x14 :: (Sl.sh (.int (9 : Nat))) :: x16 :: x17 :: x18 :: x19 :: x20 :: x21 :: (Sl.sh (.lst ((shpL 9).map ti))) :: (Sl.sh (ti p)) :: (Sl.sh (ti q)) :: Sl.un :: Sl.un :: Sl.un :: Sl.un :: Sl.un :: Sl.un :: Sl.un :: Sl.un :: []) = .ok .nx (x0 :: (Sl.ow (.lst [.int s, .int t])) :: (Sl.sh (.int a)) :: x3 :: x4 :: x5 :: x6 :: x7 :: x8 :: x9 :: x10 :: x11 :: (Sl.sh d12) :: x13 :: x14 :: (Sl.sh (.int (9 : Nat))) :: x16 :: x17 :: x18 :: x19 :: x20 :: x21 :: (Sl.sh (.lst ((shpL 9).map ti))) :: (Sl.sh (ti p)) :: (Sl.sh (ti q)) :: Sl.un :: Sl.un :: Sl.un :: Sl.un :: Sl.un :: Sl.un :: Sl.un :: Sl.un :: []) := by
  have h : ([[4, 2, 1, 1, 1], [4, 1, 1, 1, 1, 1], [3, 3, 3], [3, 3, 2, 1]] : List (List Int)).map (fun p => (shpL 9).map fun q => ml_31 (x0 :: (Sl.ow (.lst [.int s, .int t])) :: (Sl.sh (.int a)) :: x3 :: x4 :: x5 :: x6 :: x7 :: x8 :: x9 :: x10 :: x11 :: (Sl.sh d12) :: x13 :: x14 :: (Sl.sh (.int (9 : Nat))) :: x16 :: x17 :: x18 :: x19 :: x20 :: x21 :: (Sl.sh (.lst ((shpL 9).map ti))) :: (Sl.sh (ti p)) :: (Sl.sh (ti q)) :: Sl.un :: Sl.un :: Sl.un :: Sl.un :: Sl.un :: Sl.un :: Sl.un :: Sl.un :: [])) = ([[4, 2, 1, 1, 1], [4, 1, 1, 1, 1, 1], [3, 3, 3], [3, 3, 2, 1]] : List (List Int)).map (fun p => (shpL 9).map fun q => Out.ok Fl.nx (x0 :: (Sl.ow (.lst [.int s, .int t])) :: (Sl.sh (.int a)) :: x3 :: x4 :: x5 :: x6 :: x7 :: x8 :: x9 :: x10 :: x11 :: (Sl.sh d12) :: x13 :: x14 :: (Sl.sh (.int (9 : Nat))) :: x16 :: x17 :: x18 :: x19 :: x20 :: x21 :: (Sl.sh (.lst ((shpL 9).map ti))) :: (Sl.sh (ti p)) :: (Sl.sh (ti q)) :: Sl.un :: Sl.un :: Sl.un :: Sl.un :: Sl.un :: Sl.un :: Sl.un :: Sl.un :: [])) := by kernel_rfl
  intro p hp q hq
  exact map_at (map_at h p hp) q hq
theorem t31_9_5 : ∀ p ∈ ([[3, 3, 1, 1, 1], [3, 2, 2, 2], [3, 2, 2, 1, 1], [3, 2, 1, 1, 1, 1]] : List (List Int)), ∀ q ∈ shpL 9, ml_31 (x0 :: (Sl.ow (.lst [.int s, .int t])) :: (Sl.sh (.int a)) :: x3 :: x4 :: x5 :: x6 :: x7 :: x8 :: x9 :: x10 :: x11 :: (Sl.sh d12) :: x13 :: x14 :: (Sl.sh (.int (9 : Nat))) :: x16 :: x17 :: x18 :: x19 :: x20 :: x21 :: (Sl.sh (.lst ((shpL 9).map ti))) :: (Sl.sh (ti p)) :: (Sl.sh (ti q)) :: Sl.un :: Sl.un :: Sl.un :: Sl.un :: Sl.un :: Sl.un :: Sl.un :: Sl.un :: []) = .ok .nx (x0 :: (Sl.ow (.lst [.int s, .int t])) :: (Sl.sh (.int a)) :: x3 :: x4 :: x5 :: x6 :: x7 :: x8 :: x9 :: x10 :: x11 :: (Sl.sh d12) :: x13 :: x14 :: (Sl.sh (.int (9 : Nat))) :: x16 :: x17 :: x18 :: x19 :: x20 :: x21 :: (Sl.sh (.lst ((shpL 9).map ti))) :: (Sl.sh (ti p)) :: (Sl.sh (ti q)) :: Sl.un :: Sl.un :: Sl.un :: Sl.un :: Sl.un :: Sl.un :: Sl.un :: Sl.un :: []) := by
  have h : ([[3, 3, 1, 1, 1], [3, 2, 2, 2], [3, 2, 2, 1, 1], [3, 2, 1, 1, 1, 1]] : List (List Int)).map (fun p => (shpL 9).map fun q => ml_31 (x0 :: (Sl.ow (.lst [.int s, .int t])) :: (Sl.sh (.int a)) :: x3 :: x4 :: x5 :: x6 :: x7 :: x8 :: x9 :: x10 :: x11 :: (Sl.sh d12) :: x13 :: x14 :: (Sl.sh (.int (9 : Nat))) :: x16 :: x17 :: x18 :: x19 :: x20 :: x21 :: (Sl.sh (.lst ((shpL 9).map ti))) :: (Sl.sh (ti p)) :: (Sl.sh (ti q)) :: Sl.un :: Sl.un :: Sl.un :: Sl.un :: Sl.un :: Sl.un :: Sl.un :: Sl.un :: [])) = ([[3, 3, 1, 1, 1], [3, 2, 2, 2], [3, 2, 2, 1, 1], [3, 2, 1, 1, 1, 1]] : List (List Int)).map (fun p => (shpL 9).map fun q => Out.ok Fl.nx (x0 :: (Sl.ow (.lst [.int s, .int t])) :: (Sl.sh (.int a)) :: x3 :: x4 :: x5 :: x6 :: x7 :: x8 :: x9 :: x10 :: x11 :: (Sl.sh d12) :: x13 :: x14 :: (Sl.sh (.int (9 : Nat))) :: x16 :: x17 :: x18 :: x19 :: x20 :: x21 :: (Sl.sh (.lst ((shpL 9).map ti))) :: (Sl.sh (ti p)) :: (Sl.sh (ti q)) :: Sl.un :: Sl.un :: Sl.un :: Sl.un :: Sl.un :: Sl.un :: Sl.un :: Sl.un :: [])) := by kernel_rfl
  intro p hp q hq
  exact map_at (map_at h p hp) q hq
theorem t31_9_6 : ∀ p ∈ ([[3, 1, 1, 1, 1, 1, 1], [2, 2, 2, 2, 1], [2, 2, 2, 1, 1, 1], [2, 2, 1, 1, 1, 1, 1]] : List (List Int)), ∀ q ∈ shpL 9, ml_31 (x0 :: (Sl.ow (.lst [.int s, .int t])) :: (Sl.sh (.int a)) :: x3 :: x4 :: x5 :: x6 :: x7 :: x8 :: x9 :: x10 :: x11 :: (Sl.sh d12) :: x13 :: x14 :: (Sl.sh (.int (9 : Nat))) :: x16 :: x17 :: x18 :: x19 :: x20 :: x21 :: (Sl.sh (.lst ((shpL 9).map ti))) :: (Sl.sh (ti p)) :: (Sl.sh (ti q)) :: Sl.un :: Sl.un :: Sl.un :: Sl.un :: Sl.un :: Sl.un :: Sl.un :: Sl.un :: []) = .ok .nx (x0 :: (Sl.ow (.lst [.int s, .int t])) :: (Sl.sh (.int a)) :: x3 :: x4 :: x5 :: x6 :: x7 :: x8 :: x9 :: x10 :: x11 :: (Sl.sh d12) :: x13 :: x14 :: (Sl.sh (.int (9 : Nat))) :: x16 :: x17 :: x18 :: x19 :: x20 :: x21 :: (Sl.sh (.lst ((shpL 9).map ti))) :: (Sl.sh (ti p)) :: (Sl.sh (ti q)) :: Sl.un :: Sl.un :: Sl.un :: Sl.un :: Sl.un :: Sl.un :: Sl.un :: Sl.un :: []) := by
  have h : ([[3, 1, 1, 1, 1, 1, 1], [2, 2, 2, 2, 1], [2, 2, 2, 1, 1, 1], [2, 2, 1, 1, 1, 1, 1]] : List (List Int)).map (fun p => (shpL 9).map fun q => ml_31 (x0 :: (Sl.ow (.lst [.int s, .int t])) :: (Sl.sh (.int a)) :: x3 :: x4 :: x5 :: x6 :: x7 :: x8 :: x9 :: x10 :: x11 :: (Sl.sh d12) :: x13 :: x14 :: (Sl.sh (.int (9 : Nat))) :: x16 :: x17 :: x18 :: x19 :: x20 :: x21 :: (Sl.sh (.lst ((shpL 9).map ti))) :: (Sl.sh (ti p)) :: (Sl.sh (ti q)) :: Sl.un :: Sl.un :: Sl.un :: Sl.un :: Sl.un :: Sl.un :: Sl.un :: Sl.un :: [])) = ([[3, 1, 1, 1, 1, 1, 1], [2, 2, 2, 2, 1], [2, 2, 2, 1, 1, 1], [2, 2, 1, 1, 1, 1, 1]] : List (List Int)).map (fun p => (shpL 9).map fun q => Out.ok Fl.nx (x0 :: (Sl.ow (.lst [.int s, .int t])) :: (Sl.sh (.int a)) :: x3 :: x4 :: x5 :: x6 :: x7 :: x8 :: x9 :: x10 :: x11 :: (Sl.sh d12) :: x13 :: x14 :: (Sl.sh (.int (9 : Nat))) :: x16 :: x17 :: x18 :: x19 :: x20 :: x21 :: (Sl.sh (.lst ((shpL 9).map ti))) :: (Sl.sh (ti p)) :: (Sl.sh (ti q)) :: Sl.un :: Sl.un :: Sl.un :: Sl.un :: Sl.un :: Sl.un :: Sl.un :: Sl.un :: [])) := by kernel_rfl
  intro p hp q hq
  exact map_at (map_at h p hp) q hq
theorem t31_9_7 : ∀ p ∈ ([[2, 1, 1, 1, 1, 1, 1, 1], [1, 1, 1, 1, 1, 1, 1, 1, 1]] : List (List Int)), ∀ q ∈ shpL 9, ml_31 (x0 :: (Sl.ow (.lst [.int s, .int t])) :: (Sl.sh (.int a)) :: x3 :: x4 :: x5 :: x6 :: x7 :: x8 :: x9 :: x10 :: x11 :: (Sl.sh d12) :: x13 :: x14 :: (Sl.sh (.int (9 : Nat))) :: x16 :: x17 :: x18 :: x19 :: x20 :: x21 :: (Sl.sh (.lst ((shpL 9).map ti))) :: (Sl.sh (ti p)) :: (Sl.sh (ti q)) :: Sl.un :: Sl.un :: Sl.un :: Sl.un :: Sl.un :: Sl.un :: Sl.un :: Sl.un :: []) = .ok .nx (x0 :: (Sl.ow (.lst [.int s, .int t])) :: (Sl.sh (.int a)) :: x3 :: x4 :: x5 :: x6 :: x7 :: x8 :: x9 :: x10 :: x11 :: (Sl.sh d12) :: x13 :: x14 :: (Sl.sh (.int (9 : Nat))) :: x16 :: x17 :: x18 :: x19 :: x20 :: x21 :: (Sl.sh (.lst ((shpL 9).map ti))) :: (Sl.sh (ti p)) :: (Sl.sh (ti q)) :: Sl.un :: Sl.un :: Sl.un :: Sl.un :: Sl.un :: Sl.un :: Sl.un :: Sl.un :: []) := by
  have h : ([[2, 1, 1, 1, 1, 1, 1, 1], [1, 1, 1, 1, 1, 1, 1, 1, 1]] : List (List Int)).map (fun p => (shpL 9).map fun q => ml_31 (x0 :: (Sl.ow (.lst [.int s, .int t])) :: (Sl.sh (.int a)) :: x3 :: x4 :: x5 :: x6 :: x7 :: x8 :: x9 :: x10 :: x11 :: (Sl.sh d12) :: x13 :: x14 :: (Sl.sh (.int (9 : Nat))) :: x16 :: x17 :: x18 :: x19 :: x20 :: x21 :: (Sl.sh (.lst ((shpL 9).map ti))) :: (Sl.sh (ti p)) :: (Sl.sh (ti q)) :: Sl.un :: Sl.un :: Sl.un :: Sl.un :: Sl.un :: Sl.un :: Sl.un :: Sl.un :: [])) = ([[2, 1, 1, 1, 1, 1, 1, 1], [1, 1, 1, 1, 1, 1, 1, 1, 1]] : List (List Int)).map (fun p => (shpL 9).map fun q => Out.ok Fl.nx (x0 :: (Sl.ow (.lst [.int s, .int t])) :: (Sl.sh (.int a)) :: x3 :: x4 :: x5 :: x6 :: x7 :: x8 :: x9 :: x10 :: x11 :: (Sl.sh d12) :: x13 :: x14 :: (Sl.sh (.int (9 : Nat))) :: x16 :: x17 :: x18 :: x19 :: x20 :: x21 :: (Sl.sh (.lst ((shpL 9).map ti))) :: (Sl.sh (ti p)) :: (Sl.sh (ti q)) :: Sl.un :: Sl.un :: Sl.un :: Sl.un :: Sl.un :: Sl.un :: Sl.un :: Sl.un :: [])) := by kernel_rfl
  intro p hp q hq
  exact map_at (map_at h p hp) q hq
theorem t31_9 : ∀ p ∈ shpL 9, ∀ q ∈ shpL 9, ml_31 (x0 :: (Sl.ow (.lst [.int s, .int t])) :: (Sl.sh (.int a)) :: x3 :: x4 :: x5 :: x6 :: x7 :: x8 :: x9 :: x10 :: x11 :: (Sl.sh d12) :: x13 :: x14 :: (Sl.sh (.int (9 : Nat))) :: x16 :: x17 :: x18 :: x19 :: x20 :: x21 :: (Sl.sh (.lst ((shpL 9).map ti))) :: (Sl.sh (ti p)) :: (Sl.sh (ti q)) :: Sl.un :: Sl.un :: Sl.un :: Sl.un :: Sl.un :: Sl.un :: Sl.un :: Sl.un :: []) = .ok .nx (x0 :: (Sl.ow (.lst [.int s, .int t])) :: (Sl.sh (.int a)) :: x3 :: x4 :: x5 :: x6 :: x7 :: x8 :: x9 :: x10 :: x11 :: (Sl.sh d12) :: x13 :: x14 :: (Sl.sh (.int (9 : Nat))) :: x16 :: x17 :: x18 :: x19 :: x20 :: x21 :: (Sl.sh (.lst ((shpL 9).map ti))) :: (Sl.sh (ti p)) :: (Sl.sh (ti q)) :: Sl.un :: Sl.un :: Sl.un :: Sl.un :: Sl.un :: Sl.un :: Sl.un :: Sl.un :: []) := by
  intro p hp q hq
  have e : shpL 9 = ([[9], [8, 1], [7, 2], [7, 1, 1]] : List (List Int)) ++ (([[6, 3], [6, 2, 1], [6, 1, 1, 1], [5, 4]] : List (List Int)) ++ (([[5, 3, 1], [5, 2, 2], [5, 2, 1, 1], [5, 1, 1, 1, 1]] : List (List Int)) ++ (([[4, 4, 1], [4, 3, 2], [4, 3, 1, 1], [4, 2, 2, 1]] : List (List Int)) ++ (([[4, 2, 1, 1, 1], [4, 1, 1, 1, 1, 1], [3, 3, 3], [3, 3, 2, 1]] : List (List Int)) ++ (([[3, 3, 1, 1, 1], [3, 2, 2, 2], [3, 2, 2, 1, 1], [3, 2, 1, 1, 1, 1]] : List (List Int)) ++ (([[3, 1, 1, 1, 1, 1, 1], [2, 2, 2, 2, 1], [2, 2, 2, 1, 1, 1], [2, 2, 1, 1, 1, 1, 1]] : List (List Int)) ++ (([[2, 1, 1, 1, 1, 1, 1, 1], [1, 1, 1, 1, 1, 1, 1, 1, 1]] : List (List Int))))))))) := rfl
  rw [e] at hp
  rcases List.mem_append.mp hp with hp | hp
  · exact t31_9_0 x0 x3 x4 x5 x6 x7 x8 x9 x10 x11 x13 x14 x16 x17 x18 x19 x20 x21 d12 s t a p hp q hq
  · rcases List.mem_append.mp hp with hp | hp
    · exact t31_9_1 x0 x3 x4 x5 x6 x7 x8 x9 x10 x11 x13 x14 x16 x17 x18 x19 x20 x21 d12 s t a p hp q hq
    · rcases List.mem_append.mp hp with hp | hp
      · exact t31_9_2 x0 x3 x4 x5 x6 x7 x8 x9 x10 x11 x13 x14 x16 x17 x18 x19 x20 x21 d12 s t a p hp q hq
      · rcases List.mem_append.mp hp with hp | hp
        · exact t31_9_3 x0 x3 x4 x5 x6 x7 x8 x9 x10 x11 x13 x14 x16 x17 x18 x19 x20 x21 d12 s t a p hp q hq
        · rcases List.mem_append.mp hp with hp | hp
          · exact t31_9_4 x0 x3 x4 x5 x6 x7 x8 x9 x10 x11 x13 x14 x16 x17 x18 x19 x20 x21 d12 s t a p hp q hq
          · rcases List.mem_append.mp hp with hp | hp
            · exact t31_9_5 x0 x3 x4 x5 x6 x7 x8 x9 x10 x11 x13 x14 x16 x17 x18 x19 x20 x21 d12 s t a p hp q hq
            · rcases List.mem_append.mp hp with hp | hp
              · exact t31_9_6 x0 x3 x4 x5 x6 x7 x8 x9 x10 x11 x13 x14 x16 x17 x18 x19 x20 x21 d12 s t a p hp q hq
              · skip
                exact t31_9_7 x0 x3 x4 x5 x6 x7 x8 x9 x10 x11 x13 x14 x16 x17 x18 x19 x20 x21 d12 s t a p hp q hq
theorem t31 : ∀ m < 10, ∀ p ∈ shpL m, ∀ q ∈ shpL m, ml_31 (x0 :: (Sl.ow (.lst [.int s, .int t])) :: (Sl.sh (.int a)) :: x3 :: x4 :: x5 :: x6 :: x7 :: x8 :: x9 :: x10 :: x11 :: (Sl.sh d12) :: x13 :: x14 :: (Sl.sh (.int m)) :: x16 :: x17 :: x18 :: x19 :: x20 :: x21 :: (Sl.sh (.lst ((shpL m).map ti))) :: (Sl.sh (ti p)) :: (Sl.sh (ti q)) :: Sl.un :: Sl.un :: Sl.un :: Sl.un :: Sl.un :: Sl.un :: Sl.un :: Sl.un :: []) = .ok .nx (x0 :: (Sl.ow (.lst [.int s, .int t])) :: (Sl.sh (.int a)) :: x3 :: x4 :: x5 :: x6 :: x7 :: x8 :: x9 :: x10 :: x11 :: (Sl.sh d12) :: x13 :: x14 :: (Sl.sh (.int m)) :: x16 :: x17 :: x18 :: x19 :: x20 :: x21 :: (Sl.sh (.lst ((shpL m).map ti))) :: (Sl.sh (ti p)) :: (Sl.sh (ti q)) :: Sl.un :: Sl.un :: Sl.un :: Sl.un :: Sl.un :: Sl.un :: Sl.un :: Sl.un :: [])
  | 0, _ => t31_0 x0 x3 x4 x5 x6 x7 x8 x9 x10 x11 x13 x14 x16 x17 x18 x19 x20 x21 d12 s t a
  | 1, _ => t31_1 x0 x3 x4 x5 x6 x7 x8 x9 x10 x11 x13 x14 x16 x17 x18 x19 x20 x21 d12 s t a
  | 2, _ => t31_2 x0 x3 x4 x5 x6 x7 x8 x9 x10 x11 x13 x14 x16 x17 x18 x19 x20 x21 d12 s t a
  | 3, _ => t31_3 x0 x3 x4 x5 x6 x7 x8 x9 x10 x11 x13 x14 x16 x17 x18 x19 x20 x21 d12 s t a
  | 4, _ => t31_4 x0 x3 x4 x5 x6 x7 x8 x9 x10 x11 x13 x14 x16 x17 x18 x19 x20 x21 d12 s t a
  | 5, _ => t31_5 x0 x3 x4 x5 x6 x7 x8 x9 x10 x11 x13 x14 x16 x17 x18 x19 x20 x21 d12 s t a
  | 6, _ => t31_6 x0 x3 x4 x5 x6 x7 x8 x9 x10 x11 x13 x14 x16 x17 x18 x19 x20 x21 d12 s t a
  | 7, _ => t31_7 x0 x3 x4 x5 x6 x7 x8 x9 x10 x11 x13 x14 x16 x17 x18 x19 x20 x21 d12 s t a
  | 8, _ => t31_8 x0 x3 x4 x5 x6 x7 x8 x9 x10 x11 x13 x14 x16 x17 x18 x19 x20 x21 d12 s t a
  | 9, _ => t31_9 x0 x3 x4 x5 x6 x7 x8 x9 x10 x11 x13 x14 x16 x17 x18 x19 x20 x21 d12 s t a
  | m + 10, h => absurd h (by omega)
end
def b32 : M Fl := (sSeq (sAsg 26 (eAnd (eN fIsi (aCons (eV 25) (aCons (eC (.ty .int)) (aNil)))) (eNot (eN fIsi (aCons (eV 25) (aCons (eC (.ty .bool)) (aNil)))))))
      (sSeq (sAsg 27 (eAnd (eN fIsi (aCons (eV 25) (aCons (eC (.ty .tuple)) (aNil)))) (eN fAll (aCons (eLc (iV itS (eV 25)) (gNm 8) (tTrue) (eAnd (eN fIsi (aCons (eV 8) (aCons (eC (.ty .int)) (aNil)))) (eNot (eN fIsi (aCons (eV 8) (aCons (eC (.ty .bool)) (aNil)))))) [8]) (aNil)))))
      (sSeq (sAsg 21 (eAnd (eV 27) (eAnd (eN fAll (aCons (eLc (iV itS (eV 25)) (gNm 8) (tTrue) (e2 (cmp cGt) (eV 8) (eC (.int 0))) [8]) (aNil))) (eN fAll (aCons (eLc (iN rg1 (aCons (e2 fSub (eN fLen (aCons (eV 25) (aNil))) (eC (.int 1))) (aNil))) (gNm 12) (tTrue) (e2 (cmp cGe) (e2 fIx (eV 25) (eV 12)) (e2 fIx (eV 25) (e2 fAdd (eV 12) (eC (.int 1))))) [12]) (aNil))))))
      (sIf (MM.tOr (MM.tNot (tV (eCall 2 f__law_says (aCons (eCall 1 f_is_integer (aCons (eV 25) (aNil))) (aCons (eV 26) (aNil)))))) (MM.tOr (MM.tNot (tV (eCall 2 f__law_says (aCons (eCall 1 f_is_row (aCons (eV 25) (aNil))) (aCons (eV 27) (aNil)))))) (MM.tNot (tV (eCall 2 f__law_says (aCons (eCall 1 f_is_partition (aCons (eV 25) (aNil))) (aCons (eV 21) (aNil))))))))
      (sRet (eC (.bl false))) (sNx)))))
def i32 : M (List D) := iV itS (eN fLst (aCons (eV 2) (aCons (eC (.bl true)) (aCons (eC (.bl false)) (aCons (eC .non) (aCons (eC (.str "1")) (aCons (eN fTup (aCons (eC (.int 1)) (aNil))) (aCons (eN fLst (aCons (eC (.int 1)) (aNil))) (aCons (eN fTup (aNil)) (aCons (eN fTup (aCons (eC (.bl true)) (aNil))) (aCons (eN fTup (aCons (eC (.int 1)) (aCons (eC (.str "2")) (aNil)))) (aCons (eV 23) (aCons (eRevX (eV 23)) (aCons (eN fLstOf (aCons (eV 23) (aNil))) (aCons (eN fTup (aCons (eC (.int 0)) (aNil))) (aCons (eN fTup (aCons (eC (.int 2)) (aCons (eC (.int 2)) (aCons (eC (.int 1)) (aNil))))) (aCons (eN fTup (aCons (eC (.int 1)) (aCons (eC (.int 2)) (aNil)))) (aCons (eN fTup (aCons (eC (.int 3)) (aCons (eC (.int 0)) (aNil)))) (aNil)))))))))))))))))))
theorem ml32_eq : ml_32 = sFor i32 (gNm 25) b32 := rfl
def v32a (a : Int) : List D := [.int a, .bl true, .bl false, .non, .str "1", .tup [.int 1], .lst [.int 1], .tup [], .tup [.bl true], .tup [.int 1, .str "2"]]
def v32p (p : List Int) : List D := [ti p, .tup (p.map D.int).reverse, .lst (p.map .int)]
def v32b : List D := [ti [0], ti [2, 2, 1], ti [1, 2], ti [3, 0]]
def forN (g : Tgt) (b : M Fl) : List D → Ev → Option Ev
  | [], E => some E
  | d :: ds, E => match g d E with
    | none => none
    | some E1 => match b E1 with
      | .ok .nx E2 => forN g b ds E2
      | _ => none
theorem forL_app {g : Tgt} {b : M Fl} : ∀ (xs : List D) {ys : List D} {E E1 : Ev}, forN g b xs E = some E1 → forL g b (xs ++ ys) E = forL g b ys E1
  | [], ys, E, E1, h => by
    have h : some E = some E1 := h
    injection h with h
    rw [h]
    rfl
  | x :: xs, ys, E, E1, h => by
    rw [List.cons_append]
    unfold forN at h
    conv => lhs; unfold forL
    cases hg : g x E with
    | none => rw [hg] at h; cases h
    | some E2 =>
      rw [hg] at h
      simp only at h ⊢
      cases hb : b E2 with
      | ok f E3 =>
        rw [hb] at h
        simp only [Out.bind] at h ⊢
        cases f with
        | nx => exact forL_app xs h
        | _ => cases h
      | _ => rw [hb] at h; cases h
theorem forL_nil {g : Tgt} {b : M Fl} {E : Ev} : forL g b [] E = .ok .nx E := rfl
section
variable (x0 x3 x4 x5 x6 x7 x8 x9 x10 x11 x13 x14 x16 x17 x18 x19 x20 x21 x22 x23 x24 x25 x26 x27 : Sl) (d12 : D) (s t a : Int)
theorem t32au (m : Nat) (p : List Int) : forN (gNm 25) b32 (v32a a) (x0 :: (Sl.ow (.lst [.int s, .int t])) :: (Sl.sh (.int a)) :: x3 :: x4 :: x5 :: x6 :: x7 :: (Sl.un) :: x9 :: x10 :: x11 :: (Sl.sh d12) :: x13 :: x14 :: (Sl.sh (.int m)) :: x16 :: x17 :: x18 :: x19 :: x20 :: x21 :: x22 :: (Sl.sh (ti p)) :: x24 :: x25 :: x26 :: x27 :: Sl.un :: Sl.un :: Sl.un :: Sl.un :: Sl.un :: []) = some (x0 :: (Sl.ow (.lst [.int s, .int t])) :: (Sl.sh (.int a)) :: x3 :: x4 :: x5 :: x6 :: x7 :: (Sl.un) :: x9 :: x10 :: x11 :: (Sl.sh d12) :: x13 :: x14 :: (Sl.sh (.int m)) :: x16 :: x17 :: x18 :: x19 :: x20 :: (Sl.sh (.bl false)) :: x22 :: (Sl.sh (ti p)) :: x24 :: (Sl.sh (.tup [.int 1, .str "2"])) :: (Sl.sh (.bl false)) :: (Sl.sh (.bl false)) :: Sl.un :: Sl.un :: Sl.un :: Sl.un :: Sl.un :: []) := by kernel_rfl
theorem t32bu (m : Nat) (p : List Int) : forL (gNm 25) b32 v32b (x0 :: (Sl.ow (.lst [.int s, .int t])) :: (Sl.sh (.int a)) :: x3 :: x4 :: x5 :: x6 :: x7 :: (Sl.un) :: x9 :: x10 :: x11 :: (Sl.sh d12) :: x13 :: x14 :: (Sl.sh (.int m)) :: x16 :: x17 :: x18 :: x19 :: x20 :: x21 :: x22 :: (Sl.sh (ti p)) :: x24 :: x25 :: x26 :: x27 :: Sl.un :: Sl.un :: Sl.un :: Sl.un :: Sl.un :: []) = .ok .nx (x0 :: (Sl.ow (.lst [.int s, .int t])) :: (Sl.sh (.int a)) :: x3 :: x4 :: x5 :: x6 :: x7 :: (Sl.un) :: x9 :: x10 :: x11 :: (Sl.sh d12) :: x13 :: x14 :: (Sl.sh (.int m)) :: x16 :: x17 :: x18 :: x19 :: x20 :: (Sl.sh (.bl false)) :: x22 :: (Sl.sh (ti p)) :: x24 :: (Sl.sh (ti [3, 0])) :: (Sl.sh (.bl false)) :: (Sl.sh (.bl true)) :: Sl.un :: Sl.un :: Sl.un :: Sl.un :: Sl.un :: []) := by kernel_rfl
theorem t32pu : ∀ m < 10, ∀ p ∈ shpL m, forN (gNm 25) b32 (v32p p) (x0 :: (Sl.ow (.lst [.int s, .int t])) :: (Sl.sh (.int a)) :: x3 :: x4 :: x5 :: x6 :: x7 :: (Sl.un) :: x9 :: x10 :: x11 :: (Sl.sh d12) :: x13 :: x14 :: (Sl.sh (.int m)) :: x16 :: x17 :: x18 :: x19 :: x20 :: x21 :: x22 :: (Sl.sh (ti p)) :: x24 :: x25 :: x26 :: x27 :: Sl.un :: Sl.un :: Sl.un :: Sl.un :: Sl.un :: []) = some (x0 :: (Sl.ow (.lst [.int s, .int t])) :: (Sl.sh (.int a)) :: x3 :: x4 :: x5 :: x6 :: x7 :: (Sl.un) :: x9 :: x10 :: x11 :: (Sl.sh d12) :: x13 :: x14 :: (Sl.sh (.int m)) :: x16 :: x17 :: x18 :: x19 :: x20 :: (Sl.sh (.bl false)) :: x22 :: (Sl.sh (ti p)) :: x24 :: (Sl.sh (.lst (p.map .int))) :: (Sl.sh (.bl false)) :: (Sl.sh (.bl false)) :: Sl.un :: Sl.un :: Sl.un :: Sl.un :: Sl.un :: []) := by
  have q : (List.range 10).map (fun m : Nat => (shpL m).map fun p => forN (gNm 25) b32 (v32p p) (x0 :: (Sl.ow (.lst [.int s, .int t])) :: (Sl.sh (.int a)) :: x3 :: x4 :: x5 :: x6 :: x7 :: (Sl.un) :: x9 :: x10 :: x11 :: (Sl.sh d12) :: x13 :: x14 :: (Sl.sh (.int m)) :: x16 :: x17 :: x18 :: x19 :: x20 :: x21 :: x22 :: (Sl.sh (ti p)) :: x24 :: x25 :: x26 :: x27 :: Sl.un :: Sl.un :: Sl.un :: Sl.un :: Sl.un :: [])) = (List.range 10).map (fun m : Nat => (shpL m).map fun p => some (x0 :: (Sl.ow (.lst [.int s, .int t])) :: (Sl.sh (.int a)) :: x3 :: x4 :: x5 :: x6 :: x7 :: (Sl.un) :: x9 :: x10 :: x11 :: (Sl.sh d12) :: x13 :: x14 :: (Sl.sh (.int m)) :: x16 :: x17 :: x18 :: x19 :: x20 :: (Sl.sh (.bl false)) :: x22 :: (Sl.sh (ti p)) :: x24 :: (Sl.sh (.lst (p.map .int))) :: (Sl.sh (.bl false)) :: (Sl.sh (.bl false)) :: Sl.un :: Sl.un :: Sl.un :: Sl.un :: Sl.un :: [])) := by kernel_rfl
  intro m hm p hp
  exact map_at (map_at q m (List.mem_range.mpr hm)) p hp
theorem t32u (m : Nat) (hm : m < 10) (p : List Int) (hp : p ∈ shpL m) : ml_32 (x0 :: (Sl.ow (.lst [.int s, .int t])) :: (Sl.sh (.int a)) :: x3 :: x4 :: x5 :: x6 :: x7 :: (Sl.un) :: x9 :: x10 :: x11 :: (Sl.sh d12) :: x13 :: x14 :: (Sl.sh (.int m)) :: x16 :: x17 :: x18 :: x19 :: x20 :: x21 :: x22 :: (Sl.sh (ti p)) :: x24 :: x25 :: x26 :: x27 :: Sl.un :: Sl.un :: Sl.un :: Sl.un :: Sl.un :: []) = .ok .nx (x0 :: (Sl.ow (.lst [.int s, .int t])) :: (Sl.sh (.int a)) :: x3 :: x4 :: x5 :: x6 :: x7 :: (Sl.un) :: x9 :: x10 :: x11 :: (Sl.sh d12) :: x13 :: x14 :: (Sl.sh (.int m)) :: x16 :: x17 :: x18 :: x19 :: x20 :: (Sl.sh (.bl false)) :: x22 :: (Sl.sh (ti p)) :: x24 :: (Sl.sh (ti [3, 0])) :: (Sl.sh (.bl false)) :: (Sl.sh (.bl true)) :: Sl.un :: Sl.un :: Sl.un :: Sl.un :: Sl.un :: []) := by
  have e : i32 (x0 :: (Sl.ow (.lst [.int s, .int t])) :: (Sl.sh (.int a)) :: x3 :: x4 :: x5 :: x6 :: x7 :: (Sl.un) :: x9 :: x10 :: x11 :: (Sl.sh d12) :: x13 :: x14 :: (Sl.sh (.int m)) :: x16 :: x17 :: x18 :: x19 :: x20 :: x21 :: x22 :: (Sl.sh (ti p)) :: x24 :: x25 :: x26 :: x27 :: Sl.un :: Sl.un :: Sl.un :: Sl.un :: Sl.un :: []) = .ok (v32a a ++ (v32p p ++ v32b)) (x0 :: (Sl.ow (.lst [.int s, .int t])) :: (Sl.sh (.int a)) :: x3 :: x4 :: x5 :: x6 :: x7 :: (Sl.un) :: x9 :: x10 :: x11 :: (Sl.sh d12) :: x13 :: x14 :: (Sl.sh (.int m)) :: x16 :: x17 :: x18 :: x19 :: x20 :: x21 :: x22 :: (Sl.sh (ti p)) :: x24 :: x25 :: x26 :: x27 :: Sl.un :: Sl.un :: Sl.un :: Sl.un :: Sl.un :: []) := rfl
  rw [ml32_eq, sFor_ok e, forL_app _ (t32au x0 x3 x4 x5 x6 x7 x9 x10 x11 x13 x14 x16 x17 x18 x19 x20 x21 x22 x24 x25 x26 x27 d12 s t a m p), forL_app _ (t32pu x0 x3 x4 x5 x6 x7 x9 x10 x11 x13 x14 x16 x17 x18 x19 x20 _ x22 x24 _ _ _ d12 s t a m hm p hp), t32bu]
theorem t32as (d8 : D) (m : Nat) (p : List Int) : forN (gNm 25) b32 (v32a a) (x0 :: (Sl.ow (.lst [.int s, .int t])) :: (Sl.sh (.int a)) :: x3 :: x4 :: x5 :: x6 :: x7 :: (Sl.sh d8) :: x9 :: x10 :: x11 :: (Sl.sh d12) :: x13 :: x14 :: (Sl.sh (.int m)) :: x16 :: x17 :: x18 :: x19 :: x20 :: x21 :: x22 :: (Sl.sh (ti p)) :: x24 :: x25 :: x26 :: x27 :: Sl.un :: Sl.un :: Sl.un :: Sl.un :: Sl.un :: []) = some (x0 :: (Sl.ow (.lst [.int s, .int t])) :: (Sl.sh (.int a)) :: x3 :: x4 :: x5 :: x6 :: x7 :: (Sl.sh d8) :: x9 :: x10 :: x11 :: (Sl.sh d12) :: x13 :: x14 :: (Sl.sh (.int m)) :: x16 :: x17 :: x18 :: x19 :: x20 :: (Sl.sh (.bl false)) :: x22 :: (Sl.sh (ti p)) :: x24 :: (Sl.sh (.tup [.int 1, .str "2"])) :: (Sl.sh (.bl false)) :: (Sl.sh (.bl false)) :: Sl.un :: Sl.un :: Sl.un :: Sl.un :: Sl.un :: []) := by kernel_rfl
theorem t32bs (d8 : D) (m : Nat) (p : List Int) : forL (gNm 25) b32 v32b (x0 :: (Sl.ow (.lst [.int s, .int t])) :: (Sl.sh (.int a)) :: x3 :: x4 :: x5 :: x6 :: x7 :: (Sl.sh d8) :: x9 :: x10 :: x11 :: (Sl.sh d12) :: x13 :: x14 :: (Sl.sh (.int m)) :: x16 :: x17 :: x18 :: x19 :: x20 :: x21 :: x22 :: (Sl.sh (ti p)) :: x24 :: x25 :: x26 :: x27 :: Sl.un :: Sl.un :: Sl.un :: Sl.un :: Sl.un :: []) = .ok .nx (x0 :: (Sl.ow (.lst [.int s, .int t])) :: (Sl.sh (.int a)) :: x3 :: x4 :: x5 :: x6 :: x7 :: (Sl.sh d8) :: x9 :: x10 :: x11 :: (Sl.sh d12) :: x13 :: x14 :: (Sl.sh (.int m)) :: x16 :: x17 :: x18 :: x19 :: x20 :: (Sl.sh (.bl false)) :: x22 :: (Sl.sh (ti p)) :: x24 :: (Sl.sh (ti [3, 0])) :: (Sl.sh (.bl false)) :: (Sl.sh (.bl true)) :: Sl.un :: Sl.un :: Sl.un :: Sl.un :: Sl.un :: []) := by kernel_rfl
theorem t32ps (d8 : D) : ∀ m < 10, ∀ p ∈ shpL m, forN (gNm 25) b32 (v32p p) (x0 :: (Sl.ow (.lst [.int s, .int t])) :: (Sl.sh (.int a)) :: x3 :: x4 :: x5 :: x6 :: x7 :: (Sl.sh d8) :: x9 :: x10 :: x11 :: (Sl.sh d12) :: x13 :: x14 :: (Sl.sh (.int m)) :: x16 :: x17 :: x18 :: x19 :: x20 :: x21 :: x22 :: (Sl.sh (ti p)) :: x24 :: x25 :: x26 :: x27 :: Sl.un :: Sl.un :: Sl.un :: Sl.un :: Sl.un :: []) = some (x0 :: (Sl.ow (.lst [.int s, .int t])) :: (Sl.sh (.int a)) :: x3 :: x4 :: x5 :: x6 :: x7 :: (Sl.sh d8) :: x9 :: x10 :: x11 :: (Sl.sh d12) :: x13 :: x14 :: (Sl.sh (.int m)) :: x16 :: x17 :: x18 :: x19 :: x20 :: (Sl.sh (.bl false)) :: x22 :: (Sl.sh (ti p)) :: x24 :: (Sl.sh (.lst (p.map .int))) :: (Sl.sh (.bl false)) :: (Sl.sh (.bl false)) :: Sl.un :: Sl.un :: Sl.un :: Sl.un :: Sl.un :: []) := by
  have q : (List.range 10).map (fun m : Nat => (shpL m).map fun p => forN (gNm 25) b32 (v32p p) (x0 :: (Sl.ow (.lst [.int s, .int t])) :: (Sl.sh (.int a)) :: x3 :: x4 :: x5 :: x6 :: x7 :: (Sl.sh d8) :: x9 :: x10 :: x11 :: (Sl.sh d12) :: x13 :: x14 :: (Sl.sh (.int m)) :: x16 :: x17 :: x18 :: x19 :: x20 :: x21 :: x22 :: (Sl.sh (ti p)) :: x24 :: x25 :: x26 :: x27 :: Sl.un :: Sl.un :: Sl.un :: Sl.un :: Sl.un :: [])) = (List.range 10).map (fun m : Nat => (shpL m).map fun p => some (x0 :: (Sl.ow (.lst [.int s, .int t])) :: (Sl.sh (.int a)) :: x3 :: x4 :: x5 :: x6 :: x7 :: (Sl.sh d8) :: x9 :: x10 :: x11 :: (Sl.sh d12) :: x13 :: x14 :: (Sl.sh (.int m)) :: x16 :: x17 :: x18 :: x19 :: x20 :: (Sl.sh (.bl false)) :: x22 :: (Sl.sh (ti p)) :: x24 :: (Sl.sh (.lst (p.map .int))) :: (Sl.sh (.bl false)) :: (Sl.sh (.bl false)) :: Sl.un :: Sl.un :: Sl.un :: Sl.un :: Sl.un :: [])) := by kernel_rfl
  intro m hm p hp
  exact map_at (map_at q m (List.mem_range.mpr hm)) p hp
theorem t32s (d8 : D) (m : Nat) (hm : m < 10) (p : List Int) (hp : p ∈ shpL m) : ml_32 (x0 :: (Sl.ow (.lst [.int s, .int t])) :: (Sl.sh (.int a)) :: x3 :: x4 :: x5 :: x6 :: x7 :: (Sl.sh d8) :: x9 :: x10 :: x11 :: (Sl.sh d12) :: x13 :: x14 :: (Sl.sh (.int m)) :: x16 :: x17 :: x18 :: x19 :: x20 :: x21 :: x22 :: (Sl.sh (ti p)) :: x24 :: x25 :: x26 :: x27 :: Sl.un :: Sl.un :: Sl.un :: Sl.un :: Sl.un :: []) = .ok .nx (x0 :: (Sl.ow (.lst [.int s, .int t])) :: (Sl.sh (.int a)) :: x3 :: x4 :: x5 :: x6 :: x7 :: (Sl.sh d8) :: x9 :: x10 :: x11 :: (Sl.sh d12) :: x13 :: x14 :: (Sl.sh (.int m)) :: x16 :: x17 :: x18 :: x19 :: x20 :: (Sl.sh (.bl false)) :: x22 :: (Sl.sh (ti p)) :: x24 :: (Sl.sh (ti [3, 0])) :: (Sl.sh (.bl false)) :: (Sl.sh (.bl true)) :: Sl.un :: Sl.un :: Sl.un :: Sl.un :: Sl.un :: []) := by
  have e : i32 (x0 :: (Sl.ow (.lst [.int s, .int t])) :: (Sl.sh (.int a)) :: x3 :: x4 :: x5 :: x6 :: x7 :: (Sl.sh d8) :: x9 :: x10 :: x11 :: (Sl.sh d12) :: x13 :: x14 :: (Sl.sh (.int m)) :: x16 :: x17 :: x18 :: x19 :: x20 :: x21 :: x22 :: (Sl.sh (ti p)) :: x24 :: x25 :: x26 :: x27 :: Sl.un :: Sl.un :: Sl.un :: Sl.un :: Sl.un :: []) = .ok (v32a a ++ (v32p p ++ v32b)) (x0 :: (Sl.ow (.lst [.int s, .int t])) :: (Sl.sh (.int a)) :: x3 :: x4 :: x5 :: x6 :: x7 :: (Sl.sh d8) :: x9 :: x10 :: x11 :: (Sl.sh d12) :: x13 :: x14 :: (Sl.sh (.int m)) :: x16 :: x17 :: x18 :: x19 :: x20 :: x21 :: x22 :: (Sl.sh (ti p)) :: x24 :: x25 :: x26 :: x27 :: Sl.un :: Sl.un :: Sl.un :: Sl.un :: Sl.un :: []) := rfl
  rw [ml32_eq, sFor_ok e, forL_app _ (t32as x0 x3 x4 x5 x6 x7 x9 x10 x11 x13 x14 x16 x17 x18 x19 x20 x21 x22 x24 x25 x26 x27 d12 s t a d8 m p), forL_app _ (t32ps x0 x3 x4 x5 x6 x7 x9 x10 x11 x13 x14 x16 x17 x18 x19 x20 _ x22 x24 _ _ _ d12 s t a d8 m hm p hp), t32bs]
theorem t33 (x15 x22 : Sl) : ml_33 (x0 :: (Sl.ow (.lst [.int s, .int t])) :: (Sl.sh (.int a)) :: x3 :: x4 :: x5 :: x6 :: x7 :: x8 :: x9 :: x10 :: x11 :: (Sl.sh d12) :: x13 :: x14 :: x15 :: x16 :: x17 :: x18 :: x19 :: x20 :: x21 :: x22 :: x23 :: x24 :: x25 :: x26 :: x27 :: Sl.un :: Sl.un :: Sl.un :: Sl.un :: Sl.un :: []) = .ok (.rt (.sh (.bl true))) (x0 :: (Sl.ow (.lst [.int s, .int t])) :: (Sl.sh (.int a)) :: x3 :: x4 :: x5 :: x6 :: x7 :: x8 :: x9 :: x10 :: x11 :: (Sl.sh d12) :: x13 :: x14 :: x15 :: x16 :: x17 :: x18 :: x19 :: x20 :: x21 :: x22 :: x23 :: x24 :: x25 :: x26 :: x27 :: Sl.un :: Sl.un :: Sl.un :: Sl.un :: Sl.un :: []) := by kernel_rfl
end
end K00

/-! k00, plain: choices, orders, products: what is of finite range. -/
namespace K00
open PySem PySem.Spec PyProof.Rows L2 MM
theorem map_at' {α β : Type} {f g : α → β} : ∀ {l : List α}, l.map f = l.map g → ∀ x ∈ l, f x = g x
  | [], _, x, h => absurd h (by simp)
  | y :: l, e, x, h => by
    rw [List.map_cons, List.map_cons] at e
    injection e with e1 e2
    rcases List.mem_cons.mp h with rfl | h
    · exact e1
    · exact map_at' e2 x h
def fac : Nat → Int
  | 0 => 1
  | k + 1 => fac k * ((k : Int) + 1)
def q13 (x : Sl) : Nat → Sl
  | 0 => x
  | k + 1 => .sh (.int (k : Int))
theorem fac_0 : f_factorial [.int (0 : Nat)] = .ok (.sh (.int (fac 0))) := by kernel_rfl
theorem fac_1 : f_factorial [.int (1 : Nat)] = .ok (.sh (.int (fac 1))) := by kernel_rfl
theorem fac_2 : f_factorial [.int (2 : Nat)] = .ok (.sh (.int (fac 2))) := by kernel_rfl
theorem fac_3 : f_factorial [.int (3 : Nat)] = .ok (.sh (.int (fac 3))) := by kernel_rfl
theorem fac_4 : f_factorial [.int (4 : Nat)] = .ok (.sh (.int (fac 4))) := by kernel_rfl
theorem fac_5 : f_factorial [.int (5 : Nat)] = .ok (.sh (.int (fac 5))) := by kernel_rfl
theorem fac_6 : f_factorial [.int (6 : Nat)] = .ok (.sh (.int (fac 6))) := by kernel_rfl
theorem fac_7 : f_factorial [.int (7 : Nat)] = .ok (.sh (.int (fac 7))) := by kernel_rfl
theorem fac_8 : f_factorial [.int (8 : Nat)] = .ok (.sh (.int (fac 8))) := by kernel_rfl
theorem fac_ok : ∀ k < 9, f_factorial [.int (k : Nat)] = .ok (.sh (.int (fac k)))
  | 0, _ => fac_0
  | 1, _ => fac_1
  | 2, _ => fac_2
  | 3, _ => fac_3
  | 4, _ => fac_4
  | 5, _ => fac_5
  | 6, _ => fac_6
  | 7, _ => fac_7
  | 8, _ => fac_8
  | k + 9, h => absurd h (by omega)
section
variable (x0 x2 x3 x4 x5 x6 x7 x8 x9 x10 x11 x13 x14 : Sl) (d12 : D) (s t : Int)
theorem t17_0 : ml_17 (x0 :: (Sl.ow (.lst [.int s, .int t])) :: x2 :: x3 :: x4 :: x5 :: x6 :: x7 :: x8 :: x9 :: x10 :: x11 :: (Sl.sh (.int (0 : Nat))) :: x13 :: (Sl.sh (.int 1)) :: Sl.un :: Sl.un :: Sl.un :: Sl.un :: Sl.un :: Sl.un :: Sl.un :: Sl.un :: Sl.un :: Sl.un :: Sl.un :: Sl.un :: Sl.un :: Sl.un :: Sl.un :: Sl.un :: Sl.un :: Sl.un :: []) = .ok .nx (x0 :: (Sl.ow (.lst [.int s, .int t])) :: x2 :: x3 :: x4 :: x5 :: x6 :: x7 :: x8 :: x9 :: x10 :: x11 :: (Sl.sh (.int (0 : Nat))) :: (q13 x13 0) :: (Sl.sh (.int (fac 0))) :: Sl.un :: Sl.un :: Sl.un :: Sl.un :: Sl.un :: Sl.un :: Sl.un :: Sl.un :: Sl.un :: Sl.un :: Sl.un :: Sl.un :: Sl.un :: Sl.un :: Sl.un :: Sl.un :: Sl.un :: Sl.un :: []) := by kernel_rfl
theorem t17_1 : ml_17 (x0 :: (Sl.ow (.lst [.int s, .int t])) :: x2 :: x3 :: x4 :: x5 :: x6 :: x7 :: x8 :: x9 :: x10 :: x11 :: (Sl.sh (.int (1 : Nat))) :: x13 :: (Sl.sh (.int 1)) :: Sl.un :: Sl.un :: Sl.un :: Sl.un :: Sl.un :: Sl.un :: Sl.un :: Sl.un :: Sl.un :: Sl.un :: Sl.un :: Sl.un :: Sl.un :: Sl.un :: Sl.un :: Sl.un :: Sl.un :: Sl.un :: []) = .ok .nx (x0 :: (Sl.ow (.lst [.int s, .int t])) :: x2 :: x3 :: x4 :: x5 :: x6 :: x7 :: x8 :: x9 :: x10 :: x11 :: (Sl.sh (.int (1 : Nat))) :: (q13 x13 1) :: (Sl.sh (.int (fac 1))) :: Sl.un :: Sl.un :: Sl.un :: Sl.un :: Sl.un :: Sl.un :: Sl.un :: Sl.un :: Sl.un :: Sl.un :: Sl.un :: Sl.un :: Sl.un :: Sl.un :: Sl.un :: Sl.un :: Sl.un :: Sl.un :: []) := by kernel_rfl
theorem t17_2 : ml_17 (x0 :: (Sl.ow (.lst [.int s, .int t])) :: x2 :: x3 :: x4 :: x5 :: x6 :: x7 :: x8 :: x9 :: x10 :: x11 :: (Sl.sh (.int (2 : Nat))) :: x13 :: (Sl.sh (.int 1)) :: Sl.un :: Sl.un :: Sl.un :: Sl.un :: Sl.un :: Sl.un :: Sl.un :: Sl.un :: Sl.un :: Sl.un :: Sl.un :: Sl.un :: Sl.un :: Sl.un :: Sl.un :: Sl.un :: Sl.un :: Sl.un :: []) = .ok .nx (x0 :: (Sl.ow (.lst [.int s, .int t])) :: x2 :: x3 :: x4 :: x5 :: x6 :: x7 :: x8 :: x9 :: x10 :: x11 :: (Sl.sh (.int (2 : Nat))) :: (q13 x13 2) :: (Sl.sh (.int (fac 2))) :: Sl.un :: Sl.un :: Sl.un :: Sl.un :: Sl.un :: Sl.un :: Sl.un :: Sl.un :: Sl.un :: Sl.un :: Sl.un :: Sl.un :: Sl.un :: Sl.un :: Sl.un :: Sl.un :: Sl.un :: Sl.un :: []) := by kernel_rfl
theorem t17_3 : ml_17 (x0 :: (Sl.ow (.lst [.int s, .int t])) :: x2 :: x3 :: x4 :: x5 :: x6 :: x7 :: x8 :: x9 :: x10 :: x11 :: (Sl.sh (.int (3 : Nat))) :: x13 :: (Sl.sh (.int 1)) :: Sl.un :: Sl.un :: Sl.un :: Sl.un :: Sl.un :: Sl.un :: Sl.un :: Sl.un :: Sl.un :: Sl.un :: Sl.un :: Sl.un :: Sl.un :: Sl.un :: Sl.un :: Sl.un :: Sl.un :: Sl.un :: []) = .ok .nx (x0 :: (Sl.ow (.lst [.int s, .int t])) :: x2 :: x3 :: x4 :: x5 :: x6 :: x7 :: x8 :: x9 :: x10 :: x11 :: (Sl.sh (.int (3 : Nat))) :: (q13 x13 3) :: (Sl.sh (.int (fac 3))) :: Sl.un :: Sl.un :: Sl.un :: Sl.un :: Sl.un :: Sl.un :: Sl.un :: Sl.un :: Sl.un :: Sl.un :: Sl.un :: Sl.un :: Sl.un :: Sl.un :: Sl.un :: Sl.un :: Sl.un :: Sl.un :: []) := by kernel_rfl
theorem t17_4 : ml_17 (x0 :: (Sl.ow (.lst [.int s, .int t])) :: x2 :: x3 :: x4 :: x5 :: x6 :: x7 :: x8 :: x9 :: x10 :: x11 :: (Sl.sh (.int (4 : Nat))) :: x13 :: (Sl.sh (.int 1)) :: Sl.un :: Sl.un :: Sl.un :: Sl.un :: Sl.un :: Sl.un :: Sl.un :: Sl.un :: Sl.un :: Sl.un :: Sl.un :: Sl.un :: Sl.un :: Sl.un :: Sl.un :: Sl.un :: Sl.un :: Sl.un :: []) = .ok .nx (x0 :: (Sl.ow (.lst [.int s, .int t])) :: x2 :: x3 :: x4 :: x5 :: x6 :: x7 :: x8 :: x9 :: x10 :: x11 :: (Sl.sh (.int (4 : Nat))) :: (q13 x13 4) :: (Sl.sh (.int (fac 4))) :: Sl.un :: Sl.un :: Sl.un :: Sl.un :: Sl.un :: Sl.un :: Sl.un :: Sl.un :: Sl.un :: Sl.un :: Sl.un :: Sl.un :: Sl.un :: Sl.un :: Sl.un :: Sl.un :: Sl.un :: Sl.un :: []) := by kernel_rfl
theorem t17_5 : ml_17 (x0 :: (Sl.ow (.lst [.int s, .int t])) :: x2 :: x3 :: x4 :: x5 :: x6 :: x7 :: x8 :: x9 :: x10 :: x11 :: (Sl.sh (.int (5 : Nat))) :: x13 :: (Sl.sh (.int 1)) :: Sl.un :: Sl.un :: Sl.un :: Sl.un :: Sl.un :: Sl.un :: Sl.un :: Sl.un :: Sl.un :: Sl.un :: Sl.un :: Sl.un :: Sl.un :: Sl.un :: Sl.un :: Sl.un :: Sl.un :: Sl.un :: []) = .ok .nx (x0 :: (Sl.ow (.lst [.int s, .int t])) :: x2 :: x3 :: x4 :: x5 :: x6 :: x7 :: x8 :: x9 :: x10 :: x11 :: (Sl.sh (.int (5 : Nat))) :: (q13 x13 5) :: (Sl.sh (.int (fac 5))) :: Sl.un :: Sl.un :: Sl.un :: Sl.un :: Sl.un :: Sl.un :: Sl.un :: Sl.un :: Sl.un :: Sl.un :: Sl.un :: Sl.un :: Sl.un :: Sl.un :: Sl.un :: Sl.un :: Sl.un :: Sl.un :: []) := by kernel_rfl
theorem t17_6 : ml_17 (x0 :: (Sl.ow (.lst [.int s, .int t])) :: x2 :: x3 :: x4 :: x5 :: x6 :: x7 :: x8 :: x9 :: x10 :: x11 :: (Sl.sh (.int (6 : Nat))) :: x13 :: (Sl.sh (.int 1)) :: Sl.un :: Sl.un :: Sl.un :: Sl.un :: Sl.un :: Sl.un :: Sl.un :: Sl.un :: Sl.un :: Sl.un :: Sl.un :: Sl.un :: Sl.un :: Sl.un :: Sl.un :: Sl.un :: Sl.un :: Sl.un :: []) = .ok .nx (x0 :: (Sl.ow (.lst [.int s, .int t])) :: x2 :: x3 :: x4 :: x5 :: x6 :: x7 :: x8 :: x9 :: x10 :: x11 :: (Sl.sh (.int (6 : Nat))) :: (q13 x13 6) :: (Sl.sh (.int (fac 6))) :: Sl.un :: Sl.un :: Sl.un :: Sl.un :: Sl.un :: Sl.un :: Sl.un :: Sl.un :: Sl.un :: Sl.un :: Sl.un :: Sl.un :: Sl.un :: Sl.un :: Sl.un :: Sl.un :: Sl.un :: Sl.un :: []) := by kernel_rfl
theorem t17_7 : ml_17 (x0 :: (Sl.ow (.lst [.int s, .int t])) :: x2 :: x3 :: x4 :: x5 :: x6 :: x7 :: x8 :: x9 :: x10 :: x11 :: (Sl.sh (.int (7 : Nat))) :: x13 :: (Sl.sh (.int 1)) :: Sl.un :: Sl.un :: Sl.un :: Sl.un :: Sl.un :: Sl.un :: Sl.un :: Sl.un :: Sl.un :: Sl.un :: Sl.un :: Sl.un :: Sl.un :: Sl.un :: Sl.un :: Sl.un :: Sl.un :: Sl.un :: []) = .ok .nx (x0 :: (Sl.ow (.lst [.int s, .int t])) :: x2 :: x3 :: x4 :: x5 :: x6 :: x7 :: x8 :: x9 :: x10 :: x11 :: (Sl.sh (.int (7 : Nat))) :: (q13 x13 7) :: (Sl.sh (.int (fac 7))) :: Sl.un :: Sl.un :: Sl.un :: Sl.un :: Sl.un :: Sl.un :: Sl.un :: Sl.un :: Sl.un :: Sl.un :: Sl.un :: Sl.un :: Sl.un :: Sl.un :: Sl.un :: Sl.un :: Sl.un :: Sl.un :: []) := by kernel_rfl
theorem t17_8 : ml_17 (x0 :: (Sl.ow (.lst [.int s, .int t])) :: x2 :: x3 :: x4 :: x5 :: x6 :: x7 :: x8 :: x9 :: x10 :: x11 :: (Sl.sh (.int (8 : Nat))) :: x13 :: (Sl.sh (.int 1)) :: Sl.un :: Sl.un :: Sl.un :: Sl.un :: Sl.un :: Sl.un :: Sl.un :: Sl.un :: Sl.un :: Sl.un :: Sl.un :: Sl.un :: Sl.un :: Sl.un :: Sl.un :: Sl.un :: Sl.un :: Sl.un :: []) = .ok .nx (x0 :: (Sl.ow (.lst [.int s, .int t])) :: x2 :: x3 :: x4 :: x5 :: x6 :: x7 :: x8 :: x9 :: x10 :: x11 :: (Sl.sh (.int (8 : Nat))) :: (q13 x13 8) :: (Sl.sh (.int (fac 8))) :: Sl.un :: Sl.un :: Sl.un :: Sl.un :: Sl.un :: Sl.un :: Sl.un :: Sl.un :: Sl.un :: Sl.un :: Sl.un :: Sl.un :: Sl.un :: Sl.un :: Sl.un :: Sl.un :: Sl.un :: Sl.un :: []) := by kernel_rfl
theorem t17 : ∀ k < 9, ml_17 (x0 :: (Sl.ow (.lst [.int s, .int t])) :: x2 :: x3 :: x4 :: x5 :: x6 :: x7 :: x8 :: x9 :: x10 :: x11 :: (Sl.sh (.int (k : Nat))) :: x13 :: (Sl.sh (.int 1)) :: Sl.un :: Sl.un :: Sl.un :: Sl.un :: Sl.un :: Sl.un :: Sl.un :: Sl.un :: Sl.un :: Sl.un :: Sl.un :: Sl.un :: Sl.un :: Sl.un :: Sl.un :: Sl.un :: Sl.un :: Sl.un :: []) = .ok .nx (x0 :: (Sl.ow (.lst [.int s, .int t])) :: x2 :: x3 :: x4 :: x5 :: x6 :: x7 :: x8 :: x9 :: x10 :: x11 :: (Sl.sh (.int (k : Nat))) :: (q13 x13 k) :: (Sl.sh (.int (fac k))) :: Sl.un :: Sl.un :: Sl.un :: Sl.un :: Sl.un :: Sl.un :: Sl.un :: Sl.un :: Sl.un :: Sl.un :: Sl.un :: Sl.un :: Sl.un :: Sl.un :: Sl.un :: Sl.un :: Sl.un :: Sl.un :: [])
  | 0, _ => t17_0 x0 x2 x3 x4 x5 x6 x7 x8 x9 x10 x11 x13 s t
  | 1, _ => t17_1 x0 x2 x3 x4 x5 x6 x7 x8 x9 x10 x11 x13 s t
  | 2, _ => t17_2 x0 x2 x3 x4 x5 x6 x7 x8 x9 x10 x11 x13 s t
  | 3, _ => t17_3 x0 x2 x3 x4 x5 x6 x7 x8 x9 x10 x11 x13 s t
  | 4, _ => t17_4 x0 x2 x3 x4 x5 x6 x7 x8 x9 x10 x11 x13 s t
  | 5, _ => t17_5 x0 x2 x3 x4 x5 x6 x7 x8 x9 x10 x11 x13 s t
  | 6, _ => t17_6 x0 x2 x3 x4 x5 x6 x7 x8 x9 x10 x11 x13 s t
  | 7, _ => t17_7 x0 x2 x3 x4 x5 x6 x7 x8 x9 x10 x11 x13 s t
  | 8, _ => t17_8 x0 x2 x3 x4 x5 x6 x7 x8 x9 x10 x11 x13 s t
  | k + 9, h => absurd h (by omega)
def chL (m k : Nat) : D := .lst (f_choices_of [.int (m : Nat), .int (k : Nat)]).list
theorem t20_0_0 : (sSeq ml_20 ml_21) (x0 :: (Sl.ow (.lst [.int s, .int t])) :: x2 :: x3 :: x4 :: x5 :: x6 :: x7 :: x8 :: x9 :: x10 :: x11 :: (Sl.sh d12) :: x13 :: x14 :: (Sl.sh (.int (0 : Nat))) :: (Sl.sh (.int (0 : Nat))) :: Sl.un :: Sl.un :: Sl.un :: Sl.un :: Sl.un :: Sl.un :: Sl.un :: Sl.un :: Sl.un :: Sl.un :: Sl.un :: Sl.un :: Sl.un :: Sl.un :: Sl.un :: Sl.un :: []) = .ok .nx (x0 :: (Sl.ow (.lst [.int s, .int t])) :: x2 :: x3 :: x4 :: x5 :: x6 :: x7 :: x8 :: x9 :: x10 :: x11 :: (Sl.sh d12) :: x13 :: x14 :: (Sl.sh (.int (0 : Nat))) :: (Sl.sh (.int (0 : Nat))) :: (Sl.sh (chL 0 0)) :: Sl.un :: Sl.un :: Sl.un :: Sl.un :: Sl.un :: Sl.un :: Sl.un :: Sl.un :: Sl.un :: Sl.un :: Sl.un :: Sl.un :: Sl.un :: Sl.un :: Sl.un :: []) := by kernel_rfl
theorem t20_0_1 : (sSeq ml_20 ml_21) (x0 :: (Sl.ow (.lst [.int s, .int t])) :: x2 :: x3 :: x4 :: x5 :: x6 :: x7 :: x8 :: x9 :: x10 :: x11 :: (Sl.sh d12) :: x13 :: x14 :: (Sl.sh (.int (0 : Nat))) :: (Sl.sh (.int (1 : Nat))) :: Sl.un :: Sl.un :: Sl.un :: Sl.un :: Sl.un :: Sl.un :: Sl.un :: Sl.un :: Sl.un :: Sl.un :: Sl.un :: Sl.un :: Sl.un :: Sl.un :: Sl.un :: Sl.un :: []) = .ok .nx (x0 :: (Sl.ow (.lst [.int s, .int t])) :: x2 :: x3 :: x4 :: x5 :: x6 :: x7 :: x8 :: x9 :: x10 :: x11 :: (Sl.sh d12) :: x13 :: x14 :: (Sl.sh (.int (0 : Nat))) :: (Sl.sh (.int (1 : Nat))) :: (Sl.sh (chL 0 1)) :: Sl.un :: Sl.un :: Sl.un :: Sl.un :: Sl.un :: Sl.un :: Sl.un :: Sl.un :: Sl.un :: Sl.un :: Sl.un :: Sl.un :: Sl.un :: Sl.un :: Sl.un :: []) := by kernel_rfl
theorem t20_0_2 : (sSeq ml_20 ml_21) (x0 :: (Sl.ow (.lst [.int s, .int t])) :: x2 :: x3 :: x4 :: x5 :: x6 :: x7 :: x8 :: x9 :: x10 :: x11 :: (Sl.sh d12) :: x13 :: x14 :: (Sl.sh (.int (0 : Nat))) :: (Sl.sh (.int (2 : Nat))) :: Sl.un :: Sl.un :: Sl.un :: Sl.un :: Sl.un :: Sl.un :: Sl.un :: Sl.un :: Sl.un :: Sl.un :: Sl.un :: Sl.un :: Sl.un :: Sl.un :: Sl.un :: Sl.un :: []) = .ok .nx (x0 :: (Sl.ow (.lst [.int s, .int t])) :: x2 :: x3 :: x4 :: x5 :: x6 :: x7 :: x8 :: x9 :: x10 :: x11 :: (Sl.sh d12) :: x13 :: x14 :: (Sl.sh (.int (0 : Nat))) :: (Sl.sh (.int (2 : Nat))) :: (Sl.sh (chL 0 2)) :: Sl.un :: Sl.un :: Sl.un :: Sl.un :: Sl.un :: Sl.un :: Sl.un :: Sl.un :: Sl.un :: Sl.un :: Sl.un :: Sl.un :: Sl.un :: Sl.un :: Sl.un :: []) := by kernel_rfl
theorem t20_0_3 : (sSeq ml_20 ml_21) (x0 :: (Sl.ow (.lst [.int s, .int t])) :: x2 :: x3 :: x4 :: x5 :: x6 :: x7 :: x8 :: x9 :: x10 :: x11 :: (Sl.sh d12) :: x13 :: x14 :: (Sl.sh (.int (0 : Nat))) :: (Sl.sh (.int (3 : Nat))) :: Sl.un :: Sl.un :: Sl.un :: Sl.un :: Sl.un :: Sl.un :: Sl.un :: Sl.un :: Sl.un :: Sl.un :: Sl.un :: Sl.un :: Sl.un :: Sl.un :: Sl.un :: Sl.un :: []) = .ok .nx (x0 :: (Sl.ow (.lst [.int s, .int t])) :: x2 :: x3 :: x4 :: x5 :: x6 :: x7 :: x8 :: x9 :: x10 :: x11 :: (Sl.sh d12) :: x13 :: x14 :: (Sl.sh (.int (0 : Nat))) :: (Sl.sh (.int (3 : Nat))) :: (Sl.sh (chL 0 3)) :: Sl.un :: Sl.un :: Sl.un :: Sl.un :: Sl.un :: Sl.un :: Sl.un :: Sl.un :: Sl.un :: Sl.un :: Sl.un :: Sl.un :: Sl.un :: Sl.un :: Sl.un :: []) := by kernel_rfl
theorem t20_0_4 : (sSeq ml_20 ml_21) (x0 :: (Sl.ow (.lst [.int s, .int t])) :: x2 :: x3 :: x4 :: x5 :: x6 :: x7 :: x8 :: x9 :: x10 :: x11 :: (Sl.sh d12) :: x13 :: x14 :: (Sl.sh (.int (0 : Nat))) :: (Sl.sh (.int (4 : Nat))) :: Sl.un :: Sl.un :: Sl.un :: Sl.un :: Sl.un :: Sl.un :: Sl.un :: Sl.un :: Sl.un :: Sl.un :: Sl.un :: Sl.un :: Sl.un :: Sl.un :: Sl.un :: Sl.un :: []) = .ok .nx (x0 :: (Sl.ow (.lst [.int s, .int t])) :: x2 :: x3 :: x4 :: x5 :: x6 :: x7 :: x8 :: x9 :: x10 :: x11 :: (Sl.sh d12) :: x13 :: x14 :: (Sl.sh (.int (0 : Nat))) :: (Sl.sh (.int (4 : Nat))) :: (Sl.sh (chL 0 4)) :: Sl.un :: Sl.un :: Sl.un :: Sl.un :: Sl.un :: Sl.un :: Sl.un :: Sl.un :: Sl.un :: Sl.un :: Sl.un :: Sl.un :: Sl.un :: Sl.un :: Sl.un :: []) := by kernel_rfl
theorem t20_0_5 : (sSeq ml_20 ml_21) (x0 :: (Sl.ow (.lst [.int s, .int t])) :: x2 :: x3 :: x4 :: x5 :: x6 :: x7 :: x8 :: x9 :: x10 :: x11 :: (Sl.sh d12) :: x13 :: x14 :: (Sl.sh (.int (0 : Nat))) :: (Sl.sh (.int (5 : Nat))) :: Sl.un :: Sl.un :: Sl.un :: Sl.un :: Sl.un :: Sl.un :: Sl.un :: Sl.un :: Sl.un :: Sl.un :: Sl.un :: Sl.un :: Sl.un :: Sl.un :: Sl.un :: Sl.un :: []) = .ok .nx (x0 :: (Sl.ow (.lst [.int s, .int t])) :: x2 :: x3 :: x4 :: x5 :: x6 :: x7 :: x8 :: x9 :: x10 :: x11 :: (Sl.sh d12) :: x13 :: x14 :: (Sl.sh (.int (0 : Nat))) :: (Sl.sh (.int (5 : Nat))) :: (Sl.sh (chL 0 5)) :: Sl.un :: Sl.un :: Sl.un :: Sl.un :: Sl.un :: Sl.un :: Sl.un :: Sl.un :: Sl.un :: Sl.un :: Sl.un :: Sl.un :: Sl.un :: Sl.un :: Sl.un :: []) := by kernel_rfl
theorem t20_0_6 : (sSeq ml_20 ml_21) (x0 :: (Sl.ow (.lst [.int s, .int t])) :: x2 :: x3 :: x4 :: x5 :: x6 :: x7 :: x8 :: x9 :: x10 :: x11 :: (Sl.sh d12) :: x13 :: x14 :: (Sl.sh (.int (0 : Nat))) :: (Sl.sh (.int (6 : Nat))) :: Sl.un :: Sl.un :: Sl.un :: Sl.un :: Sl.un :: Sl.un :: Sl.un :: Sl.un :: Sl.un :: Sl.un :: Sl.un :: Sl.un :: Sl.un :: Sl.un :: Sl.un :: Sl.un :: []) = .ok .nx (x0 :: (Sl.ow (.lst [.int s, .int t])) :: x2 :: x3 :: x4 :: x5 :: x6 :: x7 :: x8 :: x9 :: x10 :: x11 :: (Sl.sh d12) :: x13 :: x14 :: (Sl.sh (.int (0 : Nat))) :: (Sl.sh (.int (6 : Nat))) :: (Sl.sh (chL 0 6)) :: Sl.un :: Sl.un :: Sl.un :: Sl.un :: Sl.un :: Sl.un :: Sl.un :: Sl.un :: Sl.un :: Sl.un :: Sl.un :: Sl.un :: Sl.un :: Sl.un :: Sl.un :: []) := by kernel_rfl
theorem t20_0 : ∀ k < 7, (sSeq ml_20 ml_21) (x0 :: (Sl.ow (.lst [.int s, .int t])) :: x2 :: x3 :: x4 :: x5 :: x6 :: x7 :: x8 :: x9 :: x10 :: x11 :: (Sl.sh d12) :: x13 :: x14 :: (Sl.sh (.int (0 : Nat))) :: (Sl.sh (.int (k : Nat))) :: Sl.un :: Sl.un :: Sl.un :: Sl.un :: Sl.un :: Sl.un :: Sl.un :: Sl.un :: Sl.un :: Sl.un :: Sl.un :: Sl.un :: Sl.un :: Sl.un :: Sl.un :: Sl.un :: []) = .ok .nx (x0 :: (Sl.ow (.lst [.int s, .int t])) :: x2 :: x3 :: x4 :: x5 :: x6 :: x7 :: x8 :: x9 :: x10 :: x11 :: (Sl.sh d12) :: x13 :: x14 :: (Sl.sh (.int (0 : Nat))) :: (Sl.sh (.int (k : Nat))) :: (Sl.sh (chL 0 k)) :: Sl.un :: Sl.un :: Sl.un :: Sl.un :: Sl.un :: Sl.un :: Sl.un :: Sl.un :: Sl.un :: Sl.un :: Sl.un :: Sl.un :: Sl.un :: Sl.un :: Sl.un :: [])
  | 0, _ => t20_0_0 x0 x2 x3 x4 x5 x6 x7 x8 x9 x10 x11 x13 x14 d12 s t
  | 1, _ => t20_0_1 x0 x2 x3 x4 x5 x6 x7 x8 x9 x10 x11 x13 x14 d12 s t
  | 2, _ => t20_0_2 x0 x2 x3 x4 x5 x6 x7 x8 x9 x10 x11 x13 x14 d12 s t
  | 3, _ => t20_0_3 x0 x2 x3 x4 x5 x6 x7 x8 x9 x10 x11 x13 x14 d12 s t
  | 4, _ => t20_0_4 x0 x2 x3 x4 x5 x6 x7 x8 x9 x10 x11 x13 x14 d12 s t
  | 5, _ => t20_0_5 x0 x2 x3 x4 x5 x6 x7 x8 x9 x10 x11 x13 x14 d12 s t
  | 6, _ => t20_0_6 x0 x2 x3 x4 x5 x6 x7 x8 x9 x10 x11 x13 x14 d12 s t
  | k + 7, h => absurd h (by omega)
theorem t20_1_0 : (sSeq ml_20 ml_21) (x0 :: (Sl.ow (.lst [.int s, .int t])) :: x2 :: x3 :: x4 :: x5 :: x6 :: x7 :: x8 :: x9 :: x10 :: x11 :: (Sl.sh d12) :: x13 :: x14 :: (Sl.sh (.int (1 : Nat))) :: (Sl.sh (.int (0 : Nat))) :: Sl.un :: Sl.un :: Sl.un :: Sl.un :: Sl.un :: Sl.un :: Sl.un :: Sl.un :: Sl.un :: Sl.un :: Sl.un :: Sl.un :: Sl.un :: Sl.un :: Sl.un :: Sl.un :: []) = .ok .nx (x0 :: (Sl.ow (.lst [.int s, .int t])) :: x2 :: x3 :: x4 :: x5 :: x6 :: x7 :: x8 :: x9 :: x10 :: x11 :: (Sl.sh d12) :: x13 :: x14 :: (Sl.sh (.int (1 : Nat))) :: (Sl.sh (.int (0 : Nat))) :: (Sl.sh (chL 1 0)) :: Sl.un :: Sl.un :: Sl.un :: Sl.un :: Sl.un :: Sl.un :: Sl.un :: Sl.un :: Sl.un :: Sl.un :: Sl.un :: Sl.un :: Sl.un :: Sl.un :: Sl.un :: []) := by kernel_rfl
theorem t20_1_1 : (sSeq ml_20 ml_21) (x0 :: (Sl.ow (.lst [.int s, .int t])) :: x2 :: x3 :: x4 :: x5 :: x6 :: x7 :: x8 :: x9 :: x10 :: x11 :: (Sl.sh d12) :: x13 :: x14 :: (Sl.sh (.int (1 : Nat))) :: (Sl.sh (.int (1 : Nat))) :: Sl.un :: Sl.un :: Sl.un :: Sl.un :: Sl.un :: Sl.un :: Sl.un :: Sl.un :: Sl.un :: Sl.un :: Sl.un :: Sl.un :: Sl.un :: Sl.un :: Sl.un :: Sl.un :: []) = .ok .nx (x0 :: (Sl.ow (.lst [.int s, .int t])) :: x2 :: x3 :: x4 :: x5 :: x6 :: x7 :: x8 :: x9 :: x10 :: x11 :: (Sl.sh d12) :: x13 :: x14 :: (Sl.sh (.int (1 : Nat))) :: (Sl.sh (.int (1 : Nat))) :: (Sl.sh (chL 1 1)) :: Sl.un :: Sl.un :: Sl.un :: Sl.un :: Sl.un :: Sl.un :: Sl.un :: Sl.un :: Sl.un :: Sl.un :: Sl.un :: Sl.un :: Sl.un :: Sl.un :: Sl.un :: []) := by kernel_rfl
theorem t20_1_2 : (sSeq ml_20 ml_21) (x0 :: (Sl.ow (.lst [.int s, .int t])) :: x2 :: x3 :: x4 :: x5 :: x6 :: x7 :: x8 :: x9 :: x10 :: x11 :: (Sl.sh d12) :: x13 :: x14 :: (Sl.sh (.int (1 : Nat))) :: (Sl.sh (.int (2 : Nat))) :: Sl.un :: Sl.un :: Sl.un :: Sl.un :: Sl.un :: Sl.un :: Sl.un :: Sl.un :: Sl.un :: Sl.un :: Sl.un :: Sl.un :: Sl.un :: Sl.un :: Sl.un :: Sl.un :: []) = .ok .nx (x0 :: (Sl.ow (.lst [.int s, .int t])) :: x2 :: x3 :: x4 :: x5 :: x6 :: x7 :: x8 :: x9 :: x10 :: x11 :: (Sl.sh d12) :: x13 :: x14 :: (Sl.sh (.int (1 : Nat))) :: (Sl.sh (.int (2 : Nat))) :: (Sl.sh (chL 1 2)) :: Sl.un :: Sl.un :: Sl.un :: Sl.un :: Sl.un :: Sl.un :: Sl.un :: Sl.un :: Sl.un :: Sl.un :: Sl.un :: Sl.un :: Sl.un :: Sl.un :: Sl.un :: []) := by kernel_rfl
theorem t20_1_3 : (sSeq ml_20 ml_21) (x0 :: (Sl.ow (.lst [.int s, .int t])) :: x2 :: x3 :: x4 :: x5 :: x6 :: x7 :: x8 :: x9 :: x10 :: x11 :: (Sl.sh d12) :: x13 :: x14 :: (Sl.sh (.int (1 : Nat))) :: (Sl.sh (.int (3 : Nat))) :: Sl.un :: Sl.un :: Sl.un :: Sl.un :: Sl.un :: Sl.un :: Sl.un :: Sl.un :: Sl.un :: Sl.un :: Sl.un :: Sl.un :: Sl.un :: Sl.un :: Sl.un :: Sl.un :: []) = .ok .nx (x0 :: (Sl.ow (.lst [.int s, .int t])) :: x2 :: x3 :: x4 :: x5 :: x6 :: x7 :: x8 :: x9 :: x10 :: x11 :: (Sl.sh d12) :: x13 :: x14 :: (Sl.sh (.int (1 : Nat))) :: (Sl.sh (.int (3 : Nat))) :: (Sl.sh (chL 1 3)) :: Sl.un :: Sl.un :: Sl.un :: Sl.un :: Sl.un :: Sl.un :: Sl.un :: Sl.un :: Sl.un :: Sl.un :: Sl.un :: Sl.un :: Sl.un :: Sl.un :: Sl.un :: []) := by kernel_rfl
theorem t20_1_4 : (sSeq ml_20 ml_21) (x0 :: (Sl.ow (.lst [.int s, .int t])) :: x2 :: x3 :: x4 :: x5 :: x6 :: x7 :: x8 :: x9 :: x10 :: x11 :: (Sl.sh d12) :: x13 :: x14 :: (Sl.sh (.int (1 : Nat))) :: (Sl.sh (.int (4 : Nat))) :: Sl.un :: Sl.un :: Sl.un :: Sl.un :: Sl.un :: Sl.un :: Sl.un :: Sl.un :: Sl.un :: Sl.un :: Sl.un :: Sl.un :: Sl.un :: Sl.un :: Sl.un :: Sl.un :: []) = .ok .nx (x0 :: (Sl.ow (.lst [.int s, .int t])) :: x2 :: x3 :: x4 :: x5 :: x6 :: x7 :: x8 :: x9 :: x10 :: x11 :: (Sl.sh d12) :: x13 :: x14 :: (Sl.sh (.int (1 : Nat))) :: (Sl.sh (.int (4 : Nat))) :: (Sl.sh (chL 1 4)) :: Sl.un :: Sl.un :: Sl.un :: Sl.un :: Sl.un :: Sl.un :: Sl.un :: Sl.un :: Sl.un :: Sl.un :: Sl.un :: Sl.un :: Sl.un :: Sl.un :: Sl.un :: []) := by kernel_rfl
theorem t20_1_5 : (sSeq ml_20 ml_21) (x0 :: (Sl.ow (.lst [.int s, .int t])) :: x2 :: x3 :: x4 :: x5 :: x6 :: x7 :: x8 :: x9 :: x10 :: x11 :: (Sl.sh d12) :: x13 :: x14 :: (Sl.sh (.int (1 : Nat))) :: (Sl.sh (.int (5 : Nat))) :: Sl.un :: Sl.un :: Sl.un :: Sl.un :: Sl.un :: Sl.un :: Sl.un :: Sl.un :: Sl.un :: Sl.un :: Sl.un :: Sl.un :: Sl.un :: Sl.un :: Sl.un :: Sl.un :: []) = .ok .nx (x0 :: (Sl.ow (.lst [.int s, .int t])) :: x2 :: x3 :: x4 :: x5 :: x6 :: x7 :: x8 :: x9 :: x10 :: x11 :: (Sl.sh d12) :: x13 :: x14 :: (Sl.sh (.int (1 : Nat))) :: (Sl.sh (.int (5 : Nat))) :: (Sl.sh (chL 1 5)) :: Sl.un :: Sl.un :: Sl.un :: Sl.un :: Sl.un :: Sl.un :: Sl.un :: Sl.un :: Sl.un :: Sl.un :: Sl.un :: Sl.un :: Sl.un :: Sl.un :: Sl.un :: []) := by kernel_rfl
theorem t20_1_6 : (sSeq ml_20 ml_21) (x0 :: (Sl.ow (.lst [.int s, .int t])) :: x2 :: x3 :: x4 :: x5 :: x6 :: x7 :: x8 :: x9 :: x10 :: x11 :: (Sl.sh d12) :: x13 :: x14 :: (Sl.sh (.int (1 : Nat))) :: (Sl.sh (.int (6 : Nat))) :: Sl.un :: Sl.un :: Sl.un :: Sl.un :: Sl.un :: Sl.un :: Sl.un :: Sl.un :: Sl.un :: Sl.un :: Sl.un :: Sl.un :: Sl.un :: Sl.un :: Sl.un :: Sl.un :: []) = .ok .nx (x0 :: (Sl.ow (.lst [.int s, .int t])) :: x2 :: x3 :: x4 :: x5 :: x6 :: x7 :: x8 :: x9 :: x10 :: x11 :: (Sl.sh d12) :: x13 :: x14 :: (Sl.sh (.int (1 : Nat))) :: (Sl.sh (.int (6 : Nat))) :: (Sl.sh (chL 1 6)) :: Sl.un :: Sl.un :: Sl.un :: Sl.un :: Sl.un :: Sl.un :: Sl.un :: Sl.un :: Sl.un :: Sl.un :: Sl.un :: Sl.un :: Sl.un :: Sl.un :: Sl.un :: []) := by kernel_rfl
theorem t20_1 : ∀ k < 7, (sSeq ml_20 ml_21) (x0 :: (Sl.ow (.lst [.int s, .int t])) :: x2 :: x3 :: x4 :: x5 :: x6 :: x7 :: x8 :: x9 :: x10 :: x11 :: (Sl.sh d12) :: x13 :: x14 :: (Sl.sh (.int (1 : Nat))) :: (Sl.sh (.int (k : Nat))) :: Sl.un :: Sl.un :: Sl.un :: Sl.un :: Sl.un :: Sl.un :: Sl.un :: Sl.un :: Sl.un :: Sl.un :: Sl.un :: Sl.un :: Sl.un :: Sl.un :: Sl.un :: Sl.un :: []) = .ok .nx (x0 :: (Sl.ow (.lst [.int s, .int t])) :: x2 :: x3 :: x4 :: x5 :: x6 :: x7 :: x8 :: x9 :: x10 :: x11 :: (Sl.sh d12) :: x13 :: x14 :: (Sl.sh (.int (1 : Nat))) :: (Sl.sh (.int (k : Nat))) :: (Sl.sh (chL 1 k)) :: Sl.un :: Sl.un :: Sl.un :: Sl.un :: Sl.un :: Sl.un :: Sl.un :: Sl.un :: Sl.un :: Sl.un :: Sl.un :: Sl.un :: Sl.un :: Sl.un :: Sl.un :: [])
  | 0, _ => t20_1_0 x0 x2 x3 x4 x5 x6 x7 x8 x9 x10 x11 x13 x14 d12 s t
  | 1, _ => t20_1_1 x0 x2 x3 x4 x5 x6 x7 x8 x9 x10 x11 x13 x14 d12 s t
  | 2, _ => t20_1_2 x0 x2 x3 x4 x5 x6 x7 x8 x9 x10 x11 x13 x14 d12 s t
  | 3, _ => t20_1_3 x0 x2 x3 x4 x5 x6 x7 x8 x9 x10 x11 x13 x14 d12 s t
  | 4, _ => t20_1_4 x0 x2 x3 x4 x5 x6 x7 x8 x9 x10 x11 x13 x14 d12 s t
  | 5, _ => t20_1_5 x0 x2 x3 x4 x5 x6 x7 x8 x9 x10 x11 x13 x14 d12 s t
  | 6, _ => t20_1_6 x0 x2 x3 x4 x5 x6 x7 x8 x9 x10 x11 x13 x14 d12 s t
  | k + 7, h => absurd h (by omega)
theorem t20_2_0 : (sSeq ml_20 ml_21) (x0 :: (Sl.ow (.lst [.int s, .int t])) :: x2 :: x3 :: x4 :: x5 :: x6 :: x7 :: x8 :: x9 :: x10 :: x11 :: (Sl.sh d12) :: x13 :: x14 :: (Sl.sh (.int (2 : Nat))) :: (Sl.sh (.int (0 : Nat))) :: Sl.un :: Sl.un :: Sl.un :: Sl.un :: Sl.un :: Sl.un :: Sl.un :: Sl.un :: Sl.un :: Sl.un :: Sl.un :: Sl.un :: Sl.un :: Sl.un :: Sl.un :: Sl.un :: []) = .ok .nx (x0 :: (Sl.ow (.lst [.int s, .int t])) :: x2 :: x3 :: x4 :: x5 :: x6 :: x7 :: x8 :: x9 :: x10 :: x11 :: (Sl.sh d12) :: x13 :: x14 :: (Sl.sh (.int (2 : Nat))) :: (Sl.sh (.int (0 : Nat))) :: (Sl.sh (chL 2 0)) :: Sl.un :: Sl.un :: Sl.un :: Sl.un :: Sl.un :: Sl.un :: Sl.un :: Sl.un :: Sl.un :: Sl.un :: Sl.un :: Sl.un :: Sl.un :: Sl.un :: Sl.un :: []) := by kernel_rfl
theorem t20_2_1 : (sSeq ml_20 ml_21) (x0 :: (Sl.ow (.lst [.int s, .int t])) :: x2 :: x3 :: x4 :: x5 :: x6 :: x7 :: x8 :: x9 :: x10 :: x11 :: (Sl.sh d12) :: x13 :: x14 :: (Sl.sh (.int (2 : Nat))) :: (Sl.sh (.int (1 : Nat))) :: Sl.un :: Sl.un :: Sl.un :: Sl.un :: Sl.un :: Sl.un :: Sl.un :: Sl.un :: Sl.un :: Sl.un :: Sl.un :: Sl.un :: Sl.un :: Sl.un :: Sl.un :: Sl.un :: []) = .ok .nx (x0 :: (Sl.ow (.lst [.int s, .int t])) :: x2 :: x3 :: x4 :: x5 :: x6 :: x7 :: x8 :: x9 :: x10 :: x11 :: (Sl.sh d12) :: x13 :: x14 :: (Sl.sh (.int (2 : Nat))) :: (Sl.sh (.int (1 : Nat))) :: (Sl.sh (chL 2 1)) :: Sl.un :: Sl.un :: Sl.un :: Sl.un :: Sl.un :: Sl.un :: Sl.un :: Sl.un :: Sl.un :: Sl.un :: Sl.un :: Sl.un :: Sl.un :: Sl.un :: Sl.un :: []) := by kernel_rfl
theorem t20_2_2 : (sSeq ml_20 ml_21) (x0 :: (Sl.ow (.lst [.int s, .int t])) :: x2 :: x3 :: x4 :: x5 :: x6 :: x7 :: x8 :: x9 :: x10 :: x11 :: (Sl.sh d12) :: x13 :: x14 :: (Sl.sh (.int (2 : Nat))) :: (Sl.sh (.int (2 : Nat))) :: Sl.un :: Sl.un :: Sl.un :: Sl.un :: Sl.un :: Sl.un :: Sl.un :: Sl.un :: Sl.un :: Sl.un :: Sl.un :: Sl.un :: Sl.un :: Sl.un :: Sl.un :: Sl.un :: []) = .ok .nx (x0 :: (Sl.ow (.lst [.int s, .int t])) :: x2 :: x3 :: x4 :: x5 :: x6 :: x7 :: x8 :: x9 :: x10 :: x11 :: (Sl.sh d12) :: x13 :: x14 :: (Sl.sh (.int (2 : Nat))) :: (Sl.sh (.int (2 : Nat))) :: (Sl.sh (chL 2 2)) :: Sl.un :: Sl.un :: Sl.un :: Sl.un :: Sl.un :: Sl.un :: Sl.un :: Sl.un :: Sl.un :: Sl.un :: Sl.un :: Sl.un :: Sl.un :: Sl.un :: Sl.un :: []) := by kernel_rfl
theorem t20_2_3 : (sSeq ml_20 ml_21) (x0 :: (Sl.ow (.lst [.int s, .int t])) :: x2 :: x3 :: x4 :: x5 :: x6 :: x7 :: x8 :: x9 :: x10 :: x11 :: (Sl.sh d12) :: x13 :: x14 :: (Sl.sh (.int (2 : Nat))) :: (Sl.sh (.int (3 : Nat))) :: Sl.un :: Sl.un :: Sl.un :: Sl.un :: Sl.un :: Sl.un :: Sl.un :: Sl.un :: Sl.un :: Sl.un :: Sl.un :: Sl.un :: Sl.un :: Sl.un :: Sl.un :: Sl.un :: []) = .ok .nx (x0 :: (Sl.ow (.lst [.int s, .int t])) :: x2 :: x3 :: x4 :: x5 :: x6 :: x7 :: x8 :: x9 :: x10 :: x11 :: (Sl.sh d12) :: x13 :: x14 :: (Sl.sh (.int (2 : Nat))) :: (Sl.sh (.int (3 : Nat))) :: (Sl.sh (chL 2 3)) :: Sl.un :: Sl.un :: Sl.un :: Sl.un :: Sl.un :: Sl.un :: Sl.un :: Sl.un :: Sl.un :: Sl.un :: Sl.un :: Sl.un :: Sl.un :: Sl.un :: Sl.un :: []) := by kernel_rfl
theorem t20_2_4 : (sSeq ml_20 ml_21) (x0 :: (Sl.ow (.lst [.int s, .int t])) :: x2 :: x3 :: x4 :: x5 :: x6 :: x7 :: x8 :: x9 :: x10 :: x11 :: (Sl.sh d12) :: x13 :: x14 :: (Sl.sh (.int (2 : Nat))) :: (Sl.sh (.int (4 : Nat))) :: Sl.un :: Sl.un :: Sl.un :: Sl.un :: Sl.un :: Sl.un :: Sl.un :: Sl.un :: Sl.un :: Sl.un :: Sl.un :: Sl.un :: Sl.un :: Sl.un :: Sl.un :: Sl.un :: []) = .ok .nx (x0 :: (Sl.ow (.lst [.int s, .int t])) :: x2 :: x3 :: x4 :: x5 :: x6 :: x7 :: x8 :: x9 :: x10 :: x11 :: (Sl.sh d12) :: x13 :: x14 :: (Sl.sh (.int (2 : Nat))) :: (Sl.sh (.int (4 : Nat))) :: (Sl.sh (chL 2 4)) :: Sl.un :: Sl.un :: Sl.un :: Sl.un :: Sl.un :: Sl.un :: Sl.un :: Sl.un :: Sl.un :: Sl.un :: Sl.un :: Sl.un :: Sl.un :: Sl.un :: Sl.un :: []) := by kernel_rfl
theorem t20_2_5 : (sSeq ml_20 ml_21) (x0 :: (Sl.ow (.lst [.int s, .int t])) :: x2 :: x3 :: x4 :: x5 :: x6 :: x7 :: x8 :: x9 :: x10 :: x11 :: (Sl.sh d12) :: x13 :: x14 :: (Sl.sh (.int (2 : Nat))) :: (Sl.sh (.int (5 : Nat))) :: Sl.un :: Sl.un :: Sl.un :: Sl.un :: Sl.un :: Sl.un :: Sl.un :: Sl.un :: Sl.un :: Sl.un :: Sl.un :: Sl.un :: Sl.un :: Sl.un :: Sl.un :: Sl.un :: []) = .ok .nx (x0 :: (Sl.ow (.lst [.int s, .int t])) :: x2 :: x3 :: x4 :: x5 :: x6 :: x7 :: x8 :: x9 :: x10 :: x11 :: (Sl.sh d12) :: x13 :: x14 :: (Sl.sh (.int (2 : Nat))) :: (Sl.sh (.int (5 : Nat))) :: (Sl.sh (chL 2 5)) :: Sl.un :: Sl.un :: Sl.un :: Sl.un :: Sl.un :: Sl.un :: Sl.un :: Sl.un :: Sl.un :: Sl.un :: Sl.un :: Sl.un :: Sl.un :: Sl.un :: Sl.un :: []) := by kernel_rfl
theorem t20_2_6 : (sSeq ml_20 ml_21) (x0 :: (Sl.ow (.lst [.int s, .int t])) :: x2 :: x3 :: x4 :: x5 :: x6 :: x7 :: x8 :: x9 :: x10 :: x11 :: (Sl.sh d12) :: x13 :: x14 :: (Sl.sh (.int (2 : Nat))) :: (Sl.sh (.int (6 : Nat))) :: Sl.un :: Sl.un :: Sl.un :: Sl.un :: Sl.un :: Sl.un :: Sl.un :: Sl.un :: Sl.un :: Sl.un :: Sl.un :: Sl.un :: Sl.un :: Sl.un :: Sl.un :: Sl.un :: []) = .ok .nx (x0 :: (Sl.ow (.lst [.int s, .int t])) :: x2 :: x3 :: x4 :: x5 :: x6 :: x7 :: x8 :: x9 :: x10 :: x11 :: (Sl.sh d12) :: x13 :: x14 :: (Sl.sh (.int (2 : Nat))) :: (Sl.sh (.int (6 : Nat))) :: (Sl.sh (chL 2 6)) :: Sl.un :: Sl.un :: Sl.un :: Sl.un :: Sl.un :: Sl.un :: Sl.un :: Sl.un :: Sl.un :: Sl.un :: Sl.un :: Sl.un :: Sl.un :: Sl.un :: Sl.un :: []) := by kernel_rfl
theorem t20_2 : ∀ k < 7, (sSeq ml_20 ml_21) (x0 :: (Sl.ow (.lst [.int s, .int t])) :: x2 :: x3 :: x4 :: x5 :: x6 :: x7 :: x8 :: x9 :: x10 :: x11 :: (Sl.sh d12) :: x13 :: x14 :: (Sl.sh (.int (2 : Nat))) :: (Sl.sh (.int (k : Nat))) :: Sl.un :: Sl.un :: Sl.un :: Sl.un :: Sl.un :: Sl.un :: Sl.un :: Sl.un :: Sl.un :: Sl.un :: Sl.un :: Sl.un :: Sl.un :: Sl.un :: Sl.un :: Sl.un :: []) = .ok .nx (x0 :: (Sl.ow (.lst [.int s, .int t])) :: x2 :: x3 :: x4 :: x5 :: x6 :: x7 :: x8 :: x9 :: x10 :: x11 :: (Sl.sh d12) :: x13 :: x14 :: (Sl.sh (.int (2 : Nat))) :: (Sl.sh (.int (k : Nat))) :: (Sl.sh (chL 2 k)) :: Sl.un :: Sl.un :: Sl.un :: Sl.un :: Sl.un :: Sl.un :: Sl.un :: Sl.un :: Sl.un :: Sl.un :: Sl.un :: Sl.un :: Sl.un :: Sl.un :: Sl.un :: [])
  | 0, _ => t20_2_0 x0 x2 x3 x4 x5 x6 x7 x8 x9 x10 x11 x13 x14 d12 s t
  | 1, _ => t20_2_1 x0 x2 x3 x4 x5 x6 x7 x8 x9 x10 x11 x13 x14 d12 s t
  | 2, _ => t20_2_2 x0 x2 x3 x4 x5 x6 x7 x8 x9 x10 x11 x13 x14 d12 s t
  | 3, _ => t20_2_3 x0 x2 x3 x4 x5 x6 x7 x8 x9 x10 x11 x13 x14 d12 s t
  | 4, _ => t20_2_4 x0 x2 x3 x4 x5 x6 x7 x8 x9 x10 x11 x13 x14 d12 s t
  | 5, _ => t20_2_5 x0 x2 x3 x4 x5 x6 x7 x8 x9 x10 x11 x13 x14 d12 s t
  | 6, _ => t20_2_6 x0 x2 x3 x4 x5 x6 x7 x8 x9 x10 x11 x13 x14 d12 s t
  | k + 7, h => absurd h (by omega)
theorem t20_3_0 : (sSeq ml_20 ml_21) (x0 :: (Sl.ow (.lst [.int s, .int t])) :: x2 :: x3 :: x4 :: x5 :: x6 :: x7 :: x8 :: x9 :: x10 :: x11 :: (Sl.sh d12) :: x13 :: x14 :: (Sl.sh (.int (3 : Nat))) :: (Sl.sh (.int (0 : Nat))) :: Sl.un :: Sl.un :: Sl.un :: Sl.un :: Sl.un :: Sl.un :: Sl.un :: Sl.un :: Sl.un :: Sl.un :: Sl.un :: Sl.un :: Sl.un :: Sl.un :: Sl.un :: Sl.un :: []) = .ok .nx (x0 :: (Sl.ow (.lst [.int s, .int t])) :: x2 :: x3 :: x4 :: x5 :: x6 :: x7 :: x8 :: x9 :: x10 :: x11 :: (Sl.sh d12) :: x13 :: x14 :: (Sl.sh (.int (3 : Nat))) :: (Sl.sh (.int (0 : Nat))) :: (Sl.sh (chL 3 0)) :: Sl.un :: Sl.un :: Sl.un :: Sl.un :: Sl.un :: Sl.un :: Sl.un :: Sl.un :: Sl.un :: Sl.un :: Sl.un :: Sl.un :: Sl.un :: Sl.un :: Sl.un :: []) := by kernel_rfl
theorem t20_3_1 : (sSeq ml_20 ml_21) (x0 :: (Sl.ow (.lst [.int s, .int t])) :: x2 :: x3 :: x4 :: x5 :: x6 :: x7 :: x8 :: x9 :: x10 :: x11 :: (Sl.sh d12) :: x13 :: x14 :: (Sl.sh (.int (3 : Nat))) :: (Sl.sh (.int (1 : Nat))) :: Sl.un :: Sl.un :: Sl.un :: Sl.un :: Sl.un :: Sl.un :: Sl.un :: Sl.un :: Sl.un :: Sl.un :: Sl.un :: Sl.un :: Sl.un :: Sl.un :: Sl.un :: Sl.un :: []) = .ok .nx (x0 :: (Sl.ow (.lst [.int s, .int t])) :: x2 :: x3 :: x4 :: x5 :: x6 :: x7 :: x8 :: x9 :: x10 :: x11 :: (Sl.sh d12) :: x13 :: x14 :: (Sl.sh (.int (3 : Nat))) :: (Sl.sh (.int (1 : Nat))) :: (Sl.sh (chL 3 1)) :: Sl.un :: Sl.un :: Sl.un :: Sl.un :: Sl.un :: Sl.un :: Sl.un :: Sl.un :: Sl.un :: Sl.un :: Sl.un :: Sl.un :: Sl.un :: Sl.un :: Sl.un :: []) := by kernel_rfl
theorem t20_3_2 : (sSeq ml_20 ml_21) (x0 :: (Sl.ow (.lst [.int s, .int t])) :: x2 :: x3 :: x4 :: x5 :: x6 :: x7 :: x8 :: x9 :: x10 :: x11 :: (Sl.sh d12) :: x13 :: x14 :: (Sl.sh (.int (3 : Nat))) :: (Sl.sh (.int (2 : Nat))) :: Sl.un :: Sl.un :: Sl.un :: Sl.un :: Sl.un :: Sl.un :: Sl.un :: Sl.un :: Sl.un :: Sl.un :: Sl.un :: Sl.un :: Sl.un :: Sl.un :: Sl.un :: Sl.un :: []) = .ok .nx (x0 :: (Sl.ow (.lst [.int s, .int t])) :: x2 :: x3 :: x4 :: x5 :: x6 :: x7 :: x8 :: x9 :: x10 :: x11 :: (Sl.sh d12) :: x13 :: x14 :: (Sl.sh (.int (3 : Nat))) :: (Sl.sh (.int (2 : Nat))) :: (Sl.sh (chL 3 2)) :: Sl.un :: Sl.un :: Sl.un :: Sl.un :: Sl.un :: Sl.un :: Sl.un :: Sl.un :: Sl.un :: Sl.un :: Sl.un :: Sl.un :: Sl.un :: Sl.un :: Sl.un :: []) := by kernel_rfl
theorem t20_3_3 : (sSeq ml_20 ml_21) (x0 :: (Sl.ow (.lst [.int s, .int t])) :: x2 :: x3 :: x4 :: x5 :: x6 :: x7 :: x8 :: x9 :: x10 :: x11 :: (Sl.sh d12) :: x13 :: x14 :: (Sl.sh (.int (3 : Nat))) :: (Sl.sh (.int (3 : Nat))) :: Sl.un :: Sl.un :: Sl.un :: Sl.un :: Sl.un :: Sl.un :: Sl.un :: Sl.un :: Sl.un :: Sl.un :: Sl.un :: Sl.un :: Sl.un :: Sl.un :: Sl.un :: Sl.un :: []) = .ok .nx (x0 :: (Sl.ow (.lst [.int s, .int t])) :: x2 :: x3 :: x4 :: x5 :: x6 :: x7 :: x8 :: x9 :: x10 :: x11 :: (Sl.sh d12) :: x13 :: x14 :: (Sl.sh (.int (3 : Nat))) :: (Sl.sh (.int (3 : Nat))) :: (Sl.sh (chL 3 3)) :: Sl.un :: Sl.un :: Sl.un :: Sl.un :: Sl.un :: Sl.un :: Sl.un :: Sl.un :: Sl.un :: Sl.un :: Sl.un :: Sl.un :: Sl.un :: Sl.un :: Sl.un :: []) := by kernel_rfl
theorem t20_3_4 : (sSeq ml_20 ml_21) (x0 :: (Sl.ow (.lst [.int s, .int t])) :: x2 :: x3 :: x4 :: x5 :: x6 :: x7 :: x8 :: x9 :: x10 :: x11 :: (Sl.sh d12) :: x13 :: x14 :: (Sl.sh (.int (3 : Nat))) :: (Sl.sh (.int (4 : Nat))) :: Sl.un :: Sl.un :: Sl.un :: Sl.un :: Sl.un :: Sl.un :: Sl.un :: Sl.un :: Sl.un :: Sl.un :: Sl.un :: Sl.un :: Sl.un :: Sl.un :: Sl.un :: Sl.un :: []) = .ok .nx (x0 :: (Sl.ow (.lst [.int s, .int t])) :: x2 :: x3 :: x4 :: x5 :: x6 :: x7 :: x8 :: x9 :: x10 :: x11 :: (Sl.sh d12) :: x13 :: x14 :: (Sl.sh (.int (3 : Nat))) :: (Sl.sh (.int (4 : Nat))) :: (Sl.sh (chL 3 4)) :: Sl.un :: Sl.un :: Sl.un :: Sl.un :: Sl.un :: Sl.un :: Sl.un :: Sl.un :: Sl.un :: Sl.un :: Sl.un :: Sl.un :: Sl.un :: Sl.un :: Sl.un :: []) := by kernel_rfl
theorem t20_3_5 : (sSeq ml_20 ml_21) (x0 :: (Sl.ow (.lst [.int s, .int t])) :: x2 :: x3 :: x4 :: x5 :: x6 :: x7 :: x8 :: x9 :: x10 :: x11 :: (Sl.sh d12) :: x13 :: x14 :: (Sl.sh (.int (3 : Nat))) :: (Sl.sh (.int (5 : Nat))) :: Sl.un :: Sl.un :: Sl.un :: Sl.un :: Sl.un :: Sl.un :: Sl.un :: Sl.un :: Sl.un :: Sl.un :: Sl.un :: Sl.un :: Sl.un :: Sl.un :: Sl.un :: Sl.un :: []) = .ok .nx (x0 :: (Sl.ow (.lst [.int s, .int t])) :: x2 :: x3 :: x4 :: x5 :: x6 :: x7 :: x8 :: x9 :: x10 :: x11 :: (Sl.sh d12) :: x13 :: x14 :: (Sl.sh (.int (3 : Nat))) :: (Sl.sh (.int (5 : Nat))) :: (Sl.sh (chL 3 5)) :: Sl.un :: Sl.un :: Sl.un :: Sl.un :: Sl.un :: Sl.un :: Sl.un :: Sl.un :: Sl.un :: Sl.un :: Sl.un :: Sl.un :: Sl.un :: Sl.un :: Sl.un :: []) := by kernel_rfl
theorem t20_3_6 : (sSeq ml_20 ml_21) (x0 :: (Sl.ow (.lst [.int s, .int t])) :: x2 :: x3 :: x4 :: x5 :: x6 :: x7 :: x8 :: x9 :: x10 :: x11 :: (Sl.sh d12) :: x13 :: x14 :: (Sl.sh (.int (3 : Nat))) :: (Sl.sh (.int (6 : Nat))) :: Sl.un :: Sl.un :: Sl.un :: Sl.un :: Sl.un :: Sl.un :: Sl.un :: Sl.un :: Sl.un :: Sl.un :: Sl.un :: Sl.un :: Sl.un :: Sl.un :: Sl.un :: Sl.un :: []) = .ok .nx (x0 :: (Sl.ow (.lst [.int s, .int t])) :: x2 :: x3 :: x4 :: x5 :: x6 :: x7 :: x8 :: x9 :: x10 :: x11 :: (Sl.sh d12) :: x13 :: x14 :: (Sl.sh (.int (3 : Nat))) :: (Sl.sh (.int (6 : Nat))) :: (Sl.sh (chL 3 6)) :: Sl.un :: Sl.un :: Sl.un :: Sl.un :: Sl.un :: Sl.un :: Sl.un :: Sl.un :: Sl.un :: Sl.un :: Sl.un :: Sl.un :: Sl.un :: Sl.un :: Sl.un :: []) := by kernel_rfl
theorem t20_3 : ∀ k < 7, (sSeq ml_20 ml_21) (x0 :: (Sl.ow (.lst [.int s, .int t])) :: x2 :: x3 :: x4 :: x5 :: x6 :: x7 :: x8 :: x9 :: x10 :: x11 :: (Sl.sh d12) :: x13 :: x14 :: (Sl.sh (.int (3 : Nat))) :: (Sl.sh (.int (k : Nat))) :: Sl.un :: Sl.un :: Sl.un :: Sl.un :: Sl.un :: Sl.un :: Sl.un :: Sl.un :: Sl.un :: Sl.un :: Sl.un :: Sl.un :: Sl.un :: Sl.un :: Sl.un :: Sl.un :: []) = .ok .nx (x0 :: (Sl.ow (.lst [.int s, .int t])) :: x2 :: x3 :: x4 :: x5 :: x6 :: x7 :: x8 :: x9 :: x10 :: x11 :: (Sl.sh d12) :: x13 :: x14 :: (Sl.sh (.int (3 : Nat))) :: (Sl.sh (.int (k : Nat))) :: (Sl.sh (chL 3 k)) :: Sl.un :: Sl.un :: Sl.un :: Sl.un :: Sl.un :: Sl.un :: Sl.un :: Sl.un :: Sl.un :: Sl.un :: Sl.un :: Sl.un :: Sl.un :: Sl.un :: Sl.un :: [])
  | 0, _ => t20_3_0 x0 x2 x3 x4 x5 x6 x7 x8 x9 x10 x11 x13 x14 d12 s t
  | 1, _ => t20_3_1 x0 x2 x3 x4 x5 x6 x7 x8 x9 x10 x11 x13 x14 d12 s t
  | 2, _ => t20_3_2 x0 x2 x3 x4 x5 x6 x7 x8 x9 x10 x11 x13 x14 d12 s t
  | 3, _ => t20_3_3 x0 x2 x3 x4 x5 x6 x7 x8 x9 x10 x11 x13 x14 d12 s t
  | 4, _ => t20_3_4 x0 x2 x3 x4 x5 x6 x7 x8 x9 x10 x11 x13 x14 d12 s t
  | 5, _ => t20_3_5 x0 x2 x3 x4 x5 x6 x7 x8 x9 x10 x11 x13 x14 d12 s t
  | 6, _ => t20_3_6 x0 x2 x3 x4 x5 x6 x7 x8 x9 x10 x11 x13 x14 d12 s t
  | k + 7, h => absurd h (by omega)
theorem t20_4_0 : (sSeq ml_20 ml_21) (x0 :: (Sl.ow (.lst [.int s, .int t])) :: x2 :: x3 :: x4 :: x5 :: x6 :: x7 :: x8 :: x9 :: x10 :: x11 :: (Sl.sh d12) :: x13 :: x14 :: (Sl.sh (.int (4 : Nat))) :: (Sl.sh (.int (0 : Nat))) :: Sl.un :: Sl.un :: Sl.un :: Sl.un :: Sl.un :: Sl.un :: Sl.un :: Sl.un :: Sl.un :: Sl.un :: Sl.un :: Sl.un :: Sl.un :: Sl.un :: Sl.un :: Sl.un :: []) = .ok .nx (x0 :: (Sl.ow (.lst [.int s, .int t])) :: x2 :: x3 :: x4 :: x5 :: x6 :: x7 :: x8 :: x9 :: x10 :: x11 :: (Sl.sh d12) :: x13 :: x14 :: (Sl.sh (.int (4 : Nat))) :: (Sl.sh (.int (0 : Nat))) :: (Sl.sh (chL 4 0)) :: Sl.un :: Sl.un :: Sl.un :: Sl.un :: Sl.un :: Sl.un :: Sl.un :: Sl.un :: Sl.un :: Sl.un :: Sl.un :: Sl.un :: Sl.un :: Sl.un :: Sl.un :: []) := by kernel_rfl
theorem t20_4_1 : (sSeq ml_20 ml_21) (x0 :: (Sl.ow (.lst [.int s, .int t])) :: x2 :: x3 :: x4 :: x5 :: x6 :: x7 :: x8 :: x9 :: x10 :: x11 :: (Sl.sh d12) :: x13 :: x14 :: (Sl.sh (.int (4 : Nat))) :: (Sl.sh (.int (1 : Nat))) :: Sl.un :: Sl.un :: Sl.un :: Sl.un :: Sl.un :: Sl.un :: Sl.un :: Sl.un :: Sl.un :: Sl.un :: Sl.un :: Sl.un :: Sl.un :: Sl.un :: Sl.un :: Sl.un :: []) = .ok .nx (x0 :: (Sl.ow (.lst [.int s, .int t])) :: x2 :: x3 :: x4 :: x5 :: x6 :: x7 :: x8 :: x9 :: x10 :: x11 :: (Sl.sh d12) :: x13 :: x14 :: (Sl.sh (.int (4 : Nat))) :: (Sl.sh (.int (1 : Nat))) :: (Sl.sh (chL 4 1)) :: Sl.un :: Sl.un :: Sl.un :: Sl.un :: Sl.un :: Sl.un :: Sl.un :: Sl.un :: Sl.un :: Sl.un :: Sl.un :: Sl.un :: Sl.un :: Sl.un :: Sl.un :: []) := by kernel_rfl
theorem t20_4_2 : (sSeq ml_20 ml_21) (x0 :: (Sl.ow (.lst [.int s, .int t])) :: x2 :: x3 :: x4 :: x5 :: x6 :: x7 :: x8 :: x9 :: x10 :: x11 :: (Sl.sh d12) :: x13 :: x14 :: (Sl.sh (.int (4 : Nat))) :: (Sl.sh (.int (2 : Nat))) :: Sl.un :: Sl.un :: Sl.un :: Sl.un :: Sl.un :: Sl.un :: Sl.un :: Sl.un :: Sl.un :: Sl.un :: Sl.un :: Sl.un :: Sl.un :: Sl.un :: Sl.un :: Sl.un :: []) = .ok .nx (x0 :: (Sl.ow (.lst [.int s, .int t])) :: x2 :: x3 :: x4 :: x5 :: x6 :: x7 :: x8 :: x9 :: x10 :: x11 :: (Sl.sh d12) :: x13 :: x14 :: (Sl.sh (.int (4 : Nat))) :: (Sl.sh (.int (2 : Nat))) :: (Sl.sh (chL 4 2)) :: Sl.un :: Sl.un :: Sl.un :: Sl.un :: Sl.un :: Sl.un :: Sl.un :: Sl.un :: Sl.un :: Sl.un :: Sl.un :: Sl.un :: Sl.un :: Sl.un :: Sl.un :: []) := by kernel_rfl
theorem t20_4_3 : (sSeq ml_20 ml_21) (x0 :: (Sl.ow (.lst [.int s, .int t])) :: x2 :: x3 :: x4 :: x5 :: x6 :: x7 :: x8 :: x9 :: x10 :: x11 :: (Sl.sh d12) :: x13 :: x14 :: (Sl.sh (.int (4 : Nat))) :: (Sl.sh (.int (3 : Nat))) :: Sl.un :: Sl.un :: Sl.un :: Sl.un :: Sl.un :: Sl.un :: Sl.un :: Sl.un :: Sl.un :: Sl.un :: Sl.un :: Sl.un :: Sl.un :: Sl.un :: Sl.un :: Sl.un :: []) = .ok .nx (x0 :: (Sl.ow (.lst [.int s, .int t])) :: x2 :: x3 :: x4 :: x5 :: x6 :: x7 :: x8 :: x9 :: x10 :: x11 :: (Sl.sh d12) :: x13 :: x14 :: (Sl.sh (.int (4 : Nat))) :: (Sl.sh (.int (3 : Nat))) :: (Sl.sh (chL 4 3)) :: Sl.un :: Sl.un :: Sl.un :: Sl.un :: Sl.un :: Sl.un :: Sl.un :: Sl.un :: Sl.un :: Sl.un :: Sl.un :: Sl.un :: Sl.un :: Sl.un :: Sl.un :: []) := by kernel_rfl
theorem t20_4_4 : (sSeq ml_20 ml_21) (x0 :: (Sl.ow (.lst [.int s, .int t])) :: x2 :: x3 :: x4 :: x5 :: x6 :: x7 :: x8 :: x9 :: x10 :: x11 :: (Sl.sh d12) :: x13 :: x14 :: (Sl.sh (.int (4 : Nat))) :: (Sl.sh (.int (4 : Nat))) :: Sl.un :: Sl.un :: Sl.un :: Sl.un :: Sl.un :: Sl.un :: Sl.un :: Sl.un :: Sl.un :: Sl.un :: Sl.un :: Sl.un :: Sl.un :: Sl.un :: Sl.un :: Sl.un :: []) = .ok .nx (x0 :: (Sl.ow (.lst [.int s, .int t])) :: x2 :: x3 :: x4 :: x5 :: x6 :: x7 :: x8 :: x9 :: x10 :: x11 :: (Sl.sh d12) :: x13 :: x14 :: (Sl.sh (.int (4 : Nat))) :: (Sl.sh (.int (4 : Nat))) :: (Sl.sh (chL 4 4)) :: Sl.un :: Sl.un :: Sl.un :: Sl.un :: Sl.un :: Sl.un :: Sl.un :: Sl.un :: Sl.un :: Sl.un :: Sl.un :: Sl.un :: Sl.un :: Sl.un :: Sl.un :: []) := by kernel_rfl
theorem t20_4_5 : (sSeq ml_20 ml_21) (x0 :: (Sl.ow (.lst [.int s, .int t])) :: x2 :: x3 :: x4 :: x5 :: x6 :: x7 :: x8 :: x9 :: x10 :: x11 :: (Sl.sh d12) :: x13 :: x14 :: (Sl.sh (.int (4 : Nat))) :: (Sl.sh (.int (5 : Nat))) :: Sl.un :: Sl.un :: Sl.un :: Sl.un :: Sl.un :: Sl.un :: Sl.un :: Sl.un :: Sl.un :: Sl.un :: Sl.un :: Sl.un :: Sl.un :: Sl.un :: Sl.un :: Sl.un :: []) = .ok .nx (x0 :: (Sl.ow (.lst [.int s, .int t])) :: x2 :: x3 :: x4 :: x5 :: x6 :: x7 :: x8 :: x9 :: x10 :: x11 :: (Sl.sh d12) :: x13 :: x14 :: (Sl.sh (.int (4 : Nat))) :: (Sl.sh (.int (5 : Nat))) :: (Sl.sh (chL 4 5)) :: Sl.un :: Sl.un :: Sl.un :: Sl.un :: Sl.un :: Sl.un :: Sl.un :: Sl.un :: Sl.un :: Sl.un :: Sl.un :: Sl.un :: Sl.un :: Sl.un :: Sl.un :: []) := by kernel_rfl
theorem t20_4_6 : (sSeq ml_20 ml_21) (x0 :: (Sl.ow (.lst [.int s, .int t])) :: x2 :: x3 :: x4 :: x5 :: x6 :: x7 :: x8 :: x9 :: x10 :: x11 :: (Sl.sh d12) :: x13 :: x14 :: (Sl.sh (.int (4 : Nat))) :: (Sl.sh (.int (6 : Nat))) :: Sl.un :: Sl.un :: Sl.un :: Sl.un :: Sl.un :: Sl.un :: Sl.un :: Sl.un :: Sl.un :: Sl.un :: Sl.un :: Sl.un :: Sl.un :: Sl.un :: Sl.un :: Sl.un :: []) = .ok .nx (x0 :: (Sl.ow (.lst [.int s, .int t])) :: x2 :: x3 :: x4 :: x5 :: x6 :: x7 :: x8 :: x9 :: x10 :: x11 :: (Sl.sh d12) :: x13 :: x14 :: (Sl.sh (.int (4 : Nat))) :: (Sl.sh (.int (6 : Nat))) :: (Sl.sh (chL 4 6)) :: Sl.un :: Sl.un :: Sl.un :: Sl.un :: Sl.un :: Sl.un :: Sl.un :: Sl.un :: Sl.un :: Sl.un :: Sl.un :: Sl.un :: Sl.un :: Sl.un :: Sl.un :: []) := by kernel_rfl
theorem t20_4 : ∀ k < 7, (sSeq ml_20 ml_21) (x0 :: (Sl.ow (.lst [.int s, .int t])) :: x2 :: x3 :: x4 :: x5 :: x6 :: x7 :: x8 :: x9 :: x10 :: x11 :: (Sl.sh d12) :: x13 :: x14 :: (Sl.sh (.int (4 : Nat))) :: (Sl.sh (.int (k : Nat))) :: Sl.un :: Sl.un :: Sl.un :: Sl.un :: Sl.un :: Sl.un :: Sl.un :: Sl.un :: Sl.un :: Sl.un :: Sl.un :: Sl.un :: Sl.un :: Sl.un :: Sl.un :: Sl.un :: []) = .ok .nx (x0 :: (Sl.ow (.lst [.int s, .int t])) :: x2 :: x3 :: x4 :: x5 :: x6 :: x7 :: x8 :: x9 :: x10 :: x11 :: (Sl.sh d12) :: x13 :: x14 :: (Sl.sh (.int (4 : Nat))) :: (Sl.sh (.int (k : Nat))) :: (Sl.sh (chL 4 k)) :: Sl.un :: Sl.un :: Sl.un :: Sl.un :: Sl.un :: Sl.un :: Sl.un :: Sl.un :: Sl.un :: Sl.un :: Sl.un :: Sl.un :: Sl.un :: Sl.un :: Sl.un :: [])
  | 0, _ => t20_4_0 x0 x2 x3 x4 x5 x6 x7 x8 x9 x10 x11 x13 x14 d12 s t
  | 1, _ => t20_4_1 x0 x2 x3 x4 x5 x6 x7 x8 x9 x10 x11 x13 x14 d12 s t
  | 2, _ => t20_4_2 x0 x2 x3 x4 x5 x6 x7 x8 x9 x10 x11 x13 x14 d12 s t
  | 3, _ => t20_4_3 x0 x2 x3 x4 x5 x6 x7 x8 x9 x10 x11 x13 x14 d12 s t
  | 4, _ => t20_4_4 x0 x2 x3 x4 x5 x6 x7 x8 x9 x10 x11 x13 x14 d12 s t
  | 5, _ => t20_4_5 x0 x2 x3 x4 x5 x6 x7 x8 x9 x10 x11 x13 x14 d12 s t
  | 6, _ => t20_4_6 x0 x2 x3 x4 x5 x6 x7 x8 x9 x10 x11 x13 x14 d12 s t
  | k + 7, h => absurd h (by omega)
theorem t20_5_0 : (sSeq ml_20 ml_21) (x0 :: (Sl.ow (.lst [.int s, .int t])) :: x2 :: x3 :: x4 :: x5 :: x6 :: x7 :: x8 :: x9 :: x10 :: x11 :: (Sl.sh d12) :: x13 :: x14 :: (Sl.sh (.int (5 : Nat))) :: (Sl.sh (.int (0 : Nat))) :: Sl.un :: Sl.un :: Sl.un :: Sl.un :: Sl.un :: Sl.un :: Sl.un :: Sl.un :: Sl.un :: Sl.un :: Sl.un :: Sl.un :: Sl.un :: Sl.un :: Sl.un :: Sl.un :: []) = .ok .nx (x0 :: (Sl.ow (.lst [.int s, .int t])) :: x2 :: x3 :: x4 :: x5 :: x6 :: x7 :: x8 :: x9 :: x10 :: x11 :: (Sl.sh d12) :: x13 :: x14 :: (Sl.sh (.int (5 : Nat))) :: (Sl.sh (.int (0 : Nat))) :: (Sl.sh (chL 5 0)) :: Sl.un :: Sl.un :: Sl.un :: Sl.un :: Sl.un :: Sl.un :: Sl.un :: Sl.un :: Sl.un :: Sl.un :: Sl.un :: Sl.un :: Sl.un :: Sl.un :: Sl.un :: []) := by kernel_rfl
theorem t20_5_1 : (sSeq ml_20 ml_21) (x0 :: (Sl.ow (.lst [.int s, .int t])) :: x2 :: x3 :: x4 :: x5 :: x6 :: x7 :: x8 :: x9 :: x10 :: x11 :: (Sl.sh d12) :: x13 :: x14 :: (Sl.sh (.int (5 : Nat))) :: (Sl.sh (.int (1 : Nat))) :: Sl.un :: Sl.un :: Sl.un :: Sl.un :: Sl.un :: Sl.un :: Sl.un :: Sl.un :: Sl.un :: Sl.un :: Sl.un :: Sl.un :: Sl.un :: Sl.un :: Sl.un :: Sl.un :: []) = .ok .nx (x0 :: (Sl.ow (.lst [.int s, .int t])) :: x2 :: x3 :: x4 :: x5 :: x6 :: x7 :: x8 :: x9 :: x10 :: x11 :: (Sl.sh d12) :: x13 :: x14 :: (Sl.sh (.int (5 : Nat))) :: (Sl.sh (.int (1 : Nat))) :: (Sl.sh (chL 5 1)) :: Sl.un :: Sl.un :: Sl.un :: Sl.un :: Sl.un :: Sl.un :: Sl.un :: Sl.un :: Sl.un :: Sl.un :: Sl.un :: Sl.un :: Sl.un :: Sl.un :: Sl.un :: []) := by kernel_rfl
theorem t20_5_2 : (sSeq ml_20 ml_21) (x0 :: (Sl.ow (.lst [.int s, .int t])) :: x2 :: x3 :: x4 :: x5 :: x6 :: x7 :: x8 :: x9 :: x10 :: x11 :: (Sl.sh d12) :: x13 :: x14 :: (Sl.sh (.int (5 : Nat))) :: (Sl.sh (.int (2 : Nat))) :: Sl.un :: Sl.un :: Sl.un :: Sl.un :: Sl.un :: Sl.un :: Sl.un :: Sl.un :: Sl.un :: Sl.un :: Sl.un :: Sl.un :: Sl.un :: Sl.un :: Sl.un :: Sl.un :: []) = .ok .nx (x0 :: (Sl.ow (.lst [.int s, .int t])) :: x2 :: x3 :: x4 :: x5 :: x6 :: x7 :: x8 :: x9 :: x10 :: x11 :: (Sl.sh d12) :: x13 :: x14 :: (Sl.sh (.int (5 : Nat))) :: (Sl.sh (.int (2 : Nat))) :: (Sl.sh (chL 5 2)) :: Sl.un :: Sl.un :: Sl.un :: Sl.un :: Sl.un :: Sl.un :: Sl.un :: Sl.un :: Sl.un :: Sl.un :: Sl.un :: Sl.un :: Sl.un :: Sl.un :: Sl.un :: []) := by kernel_rfl
theorem t20_5_3 : (sSeq ml_20 ml_21) (x0 :: (Sl.ow (.lst [.int s, .int t])) :: x2 :: x3 :: x4 :: x5 :: x6 :: x7 :: x8 :: x9 :: x10 :: x11 :: (Sl.sh d12) :: x13 :: x14 :: (Sl.sh (.int (5 : Nat))) :: (Sl.sh (.int (3 : Nat))) :: Sl.un :: Sl.un :: Sl.un :: Sl.un :: Sl.un :: Sl.un :: Sl.un :: Sl.un :: Sl.un :: Sl.un :: Sl.un :: Sl.un :: Sl.un :: Sl.un :: Sl.un :: Sl.un :: []) = .ok .nx (x0 :: (Sl.ow (.lst [.int s, .int t])) :: x2 :: x3 :: x4 :: x5 :: x6 :: x7 :: x8 :: x9 :: x10 :: x11 :: (Sl.sh d12) :: x13 :: x14 :: (Sl.sh (.int (5 : Nat))) :: (Sl.sh (.int (3 : Nat))) :: (Sl.sh (chL 5 3)) :: Sl.un :: Sl.un :: Sl.un :: Sl.un :: Sl.un :: Sl.un :: Sl.un :: Sl.un :: Sl.un :: Sl.un :: Sl.un :: Sl.un :: Sl.un :: Sl.un :: Sl.un :: []) := by kernel_rfl
theorem t20_5_4 : (sSeq ml_20 ml_21) (x0 :: (Sl.ow (.lst [.int s, .int t])) :: x2 :: x3 :: x4 :: x5 :: x6 :: x7 :: x8 :: x9 :: x10 :: x11 :: (Sl.sh d12) :: x13 :: x14 :: (Sl.sh (.int (5 : Nat))) :: (Sl.sh (.int (4 : Nat))) :: Sl.un :: Sl.un :: Sl.un :: Sl.un :: Sl.un :: Sl.un :: Sl.un :: Sl.un :: Sl.un :: Sl.un :: Sl.un :: Sl.un :: Sl.un :: Sl.un :: Sl.un :: Sl.un :: []) = .ok .nx (x0 :: (Sl.ow (.lst [.int s, .int t])) :: x2 :: x3 :: x4 :: x5 :: x6 :: x7 :: x8 :: x9 :: x10 :: x11 :: (Sl.sh d12) :: x13 :: x14 :: (Sl.sh (.int (5 : Nat))) :: (Sl.sh (.int (4 : Nat))) :: (Sl.sh (chL 5 4)) :: Sl.un :: Sl.un :: Sl.un :: Sl.un :: Sl.un :: Sl.un :: Sl.un :: Sl.un :: Sl.un :: Sl.un :: Sl.un :: Sl.un :: Sl.un :: Sl.un :: Sl.un :: []) := by kernel_rfl
theorem t20_5_5 : (sSeq ml_20 ml_21) (x0 :: (Sl.ow (.lst [.int s, .int t])) :: x2 :: x3 :: x4 :: x5 :: x6 :: x7 :: x8 :: x9 :: x10 :: x11 :: (Sl.sh d12) :: x13 :: x14 :: (Sl.sh (.int (5 : Nat))) :: (Sl.sh (.int (5 : Nat))) :: Sl.un :: Sl.un :: Sl.un :: Sl.un :: Sl.un :: Sl.un :: Sl.un :: Sl.un :: Sl.un :: Sl.un :: Sl.un :: Sl.un :: Sl.un :: Sl.un :: Sl.un :: Sl.un :: []) = .ok .nx (x0 :: (Sl.ow (.lst [.int s, .int t])) :: x2 :: x3 :: x4 :: x5 :: x6 :: x7 :: x8 :: x9 :: x10 :: x11 :: (Sl.sh d12) :: x13 :: x14 :: (Sl.sh (.int (5 : Nat))) :: (Sl.sh (.int (5 : Nat))) :: (Sl.sh (chL 5 5)) :: Sl.un :: Sl.un :: Sl.un :: Sl.un :: Sl.un :: Sl.un :: Sl.un :: Sl.un :: Sl.un :: Sl.un :: Sl.un :: Sl.un :: Sl.un :: Sl.un :: Sl.un :: []) := by kernel_rfl
theorem t20_5_6 : (sSeq ml_20 ml_21) (x0 :: (Sl.ow (.lst [.int s, .int t])) :: x2 :: x3 :: x4 :: x5 :: x6 :: x7 :: x8 :: x9 :: x10 :: x11 :: (Sl.sh d12) :: x13 :: x14 :: (Sl.sh (.int (5 : Nat))) :: (Sl.sh (.int (6 : Nat))) :: Sl.un :: Sl.un :: Sl.un :: Sl.un :: Sl.un :: Sl.un :: Sl.un :: Sl.un :: Sl.un :: Sl.un :: Sl.un :: Sl.un :: Sl.un :: Sl.un :: Sl.un :: Sl.un :: []) = .ok .nx (x0 :: (Sl.ow (.lst [.int s, .int t])) :: x2 :: x3 :: x4 :: x5 :: x6 :: x7 :: x8 :: x9 :: x10 :: x11 :: (Sl.sh d12) :: x13 :: x14 :: (Sl.sh (.int (5 : Nat))) :: (Sl.sh (.int (6 : Nat))) :: (Sl.sh (chL 5 6)) :: Sl.un :: Sl.un :: Sl.un :: Sl.un :: Sl.un :: Sl.un :: Sl.un :: Sl.un :: Sl.un :: Sl.un :: Sl.un :: Sl.un :: Sl.un :: Sl.un :: Sl.un :: []) := by kernel_rfl
theorem t20_5 : ∀ k < 7, (sSeq ml_20 ml_21) (x0 :: (Sl.ow (.lst [.int s, .int t])) :: x2 :: x3 :: x4 :: x5 :: x6 :: x7 :: x8 :: x9 :: x10 :: x11 :: (Sl.sh d12) :: x13 :: x14 :: (Sl.sh (.int (5 : Nat))) :: (Sl.sh (.int (k : Nat))) :: Sl.un :: Sl.un :: Sl.un :: Sl.un :: Sl.un :: Sl.un :: Sl.un :: Sl.un :: Sl.un :: Sl.un :: Sl.un :: Sl.un :: Sl.un :: Sl.un :: Sl.un :: Sl.un :: []) = .ok .nx (x0 :: (Sl.ow (.lst [.int s, .int t])) :: x2 :: x3 :: x4 :: x5 :: x6 :: x7 :: x8 :: x9 :: x10 :: x11 :: (Sl.sh d12) :: x13 :: x14 :: (Sl.sh (.int (5 : Nat))) :: (Sl.sh (.int (k : Nat))) :: (Sl.sh (chL 5 k)) :: Sl.un :: Sl.un :: Sl.un :: Sl.un :: Sl.un :: Sl.un :: Sl.un :: Sl.un :: Sl.un :: Sl.un :: Sl.un :: Sl.un :: Sl.un :: Sl.un :: Sl.un :: [])
  | 0, _ => t20_5_0 x0 x2 x3 x4 x5 x6 x7 x8 x9 x10 x11 x13 x14 d12 s t
  | 1, _ => t20_5_1 x0 x2 x3 x4 x5 x6 x7 x8 x9 x10 x11 x13 x14 d12 s t
  | 2, _ => t20_5_2 x0 x2 x3 x4 x5 x6 x7 x8 x9 x10 x11 x13 x14 d12 s t
  | 3, _ => t20_5_3 x0 x2 x3 x4 x5 x6 x7 x8 x9 x10 x11 x13 x14 d12 s t
  | 4, _ => t20_5_4 x0 x2 x3 x4 x5 x6 x7 x8 x9 x10 x11 x13 x14 d12 s t
  | 5, _ => t20_5_5 x0 x2 x3 x4 x5 x6 x7 x8 x9 x10 x11 x13 x14 d12 s t
  | 6, _ => t20_5_6 x0 x2 x3 x4 x5 x6 x7 x8 x9 x10 x11 x13 x14 d12 s t
  | k + 7, h => absurd h (by omega)
theorem t20_6_0 : (sSeq ml_20 ml_21) (x0 :: (Sl.ow (.lst [.int s, .int t])) :: x2 :: x3 :: x4 :: x5 :: x6 :: x7 :: x8 :: x9 :: x10 :: x11 :: (Sl.sh d12) :: x13 :: x14 :: (Sl.sh (.int (6 : Nat))) :: (Sl.sh (.int (0 : Nat))) :: Sl.un :: Sl.un :: Sl.un :: Sl.un :: Sl.un :: Sl.un :: Sl.un :: Sl.un :: Sl.un :: Sl.un :: Sl.un :: Sl.un :: Sl.un :: Sl.un :: Sl.un :: Sl.un :: []) = .ok .nx (x0 :: (Sl.ow (.lst [.int s, .int t])) :: x2 :: x3 :: x4 :: x5 :: x6 :: x7 :: x8 :: x9 :: x10 :: x11 :: (Sl.sh d12) :: x13 :: x14 :: (Sl.sh (.int (6 : Nat))) :: (Sl.sh (.int (0 : Nat))) :: (Sl.sh (chL 6 0)) :: Sl.un :: Sl.un :: Sl.un :: Sl.un :: Sl.un :: Sl.un :: Sl.un :: Sl.un :: Sl.un :: Sl.un :: Sl.un :: Sl.un :: Sl.un :: Sl.un :: Sl.un :: []) := by kernel_rfl
theorem t20_6_1 : (sSeq ml_20 ml_21) (x0 :: (Sl.ow (.lst [.int s, .int t])) :: x2 :: x3 :: x4 :: x5 :: x6 :: x7 :: x8 :: x9 :: x10 :: x11 :: (Sl.sh d12) :: x13 :: x14 :: (Sl.sh (.int (6 : Nat))) :: (Sl.sh (.int (1 : Nat))) :: Sl.un :: Sl.un :: Sl.un :: Sl.un :: Sl.un :: Sl.un :: Sl.un :: Sl.un :: Sl.un :: Sl.un :: Sl.un :: Sl.un :: Sl.un :: Sl.un :: Sl.un :: Sl.un :: []) = .ok .nx (x0 :: (Sl.ow (.lst [.int s, .int t])) :: x2 :: x3 :: x4 :: x5 :: x6 :: x7 :: x8 :: x9 :: x10 :: x11 :: (Sl.sh d12) :: x13 :: x14 :: (Sl.sh (.int (6 : Nat))) :: (Sl.sh (.int (1 : Nat))) :: (Sl.sh (chL 6 1)) :: Sl.un :: Sl.un :: Sl.un :: Sl.un :: Sl.un :: Sl.un :: Sl.un :: Sl.un :: Sl.un :: Sl.un :: Sl.un :: Sl.un :: Sl.un :: Sl.un :: Sl.un :: []) := by kernel_rfl
theorem t20_6_2 : (sSeq ml_20 ml_21) (x0 :: (Sl.ow (.lst [.int s, .int t])) :: x2 :: x3 :: x4 :: x5 :: x6 :: x7 :: x8 :: x9 :: x10 :: x11 :: (Sl.sh d12) :: x13 :: x14 :: (Sl.sh (.int (6 : Nat))) :: (Sl.sh (.int (2 : Nat))) :: Sl.un :: Sl.un :: Sl.un :: Sl.un :: Sl.un :: Sl.un :: Sl.un :: Sl.un :: Sl.un :: Sl.un :: Sl.un :: Sl.un :: Sl.un :: Sl.un :: Sl.un :: Sl.un :: []) = .ok .nx (x0 :: (Sl.ow (.lst [.int s, .int t])) :: x2 :: x3 :: x4 :: x5 :: x6 :: x7 :: x8 :: x9 :: x10 :: x11 :: (Sl.sh d12) :: x13 :: x14 :: (Sl.sh (.int (6 : Nat))) :: (Sl.sh (.int (2 : Nat))) :: (Sl.sh (chL 6 2)) :: Sl.un :: Sl.un :: Sl.un :: Sl.un :: Sl.un :: Sl.un :: Sl.un :: Sl.un :: Sl.un :: Sl.un :: Sl.un :: Sl.un :: Sl.un :: Sl.un :: Sl.un :: []) := by kernel_rfl
theorem t20_6_3 : (sSeq ml_20 ml_21) (x0 :: (Sl.ow (.lst [.int s, .int t])) :: x2 :: x3 :: x4 :: x5 :: x6 :: x7 :: x8 :: x9 :: x10 :: x11 :: (Sl.sh d12) :: x13 :: x14 :: (Sl.sh (.int (6 : Nat))) :: (Sl.sh (.int (3 : Nat))) :: Sl.un :: Sl.un :: Sl.un :: Sl.un :: Sl.un :: Sl.un :: Sl.un :: Sl.un :: Sl.un :: Sl.un :: Sl.un :: Sl.un :: Sl.un :: Sl.un :: Sl.un :: Sl.un :: []) = .ok .nx (x0 :: (Sl.ow (.lst [.int s, .int t])) :: x2 :: x3 :: x4 :: x5 :: x6 :: x7 :: x8 :: x9 :: x10 :: x11 :: (Sl.sh d12) :: x13 :: x14 :: (Sl.sh (.int (6 : Nat))) :: (Sl.sh (.int (3 : Nat))) :: (Sl.sh (chL 6 3)) :: Sl.un :: Sl.un :: Sl.un :: Sl.un :: Sl.un :: Sl.un :: Sl.un :: Sl.un :: Sl.un :: Sl.un :: Sl.un :: Sl.un :: Sl.un :: Sl.un :: Sl.un :: []) := by kernel_rfl
theorem t20_6_4 : (sSeq ml_20 ml_21) (x0 :: (Sl.ow (.lst [.int s, .int t])) :: x2 :: x3 :: x4 :: x5 :: x6 :: x7 :: x8 :: x9 :: x10 :: x11 :: (Sl.sh d12) :: x13 :: x14 :: (Sl.sh (.int (6 : Nat))) :: (Sl.sh (.int (4 : Nat))) :: Sl.un :: Sl.un :: Sl.un :: Sl.un :: Sl.un :: Sl.un :: Sl.un :: Sl.un :: Sl.un :: Sl.un :: Sl.un :: Sl.un :: Sl.un :: Sl.un :: Sl.un :: Sl.un :: []) = .ok .nx (x0 :: (Sl.ow (.lst [.int s, .int t])) :: x2 :: x3 :: x4 :: x5 :: x6 :: x7 :: x8 :: x9 :: x10 :: x11 :: (Sl.sh d12) :: x13 :: x14 :: (Sl.sh (.int (6 : Nat))) :: (Sl.sh (.int (4 : Nat))) :: (Sl.sh (chL 6 4)) :: Sl.un :: Sl.un :: Sl.un :: Sl.un :: Sl.un :: Sl.un :: Sl.un :: Sl.un :: Sl.un :: Sl.un :: Sl.un :: Sl.un :: Sl.un :: Sl.un :: Sl.un :: []) := by kernel_rfl
theorem t20_6_5 : (sSeq ml_20 ml_21) (x0 :: (Sl.ow (.lst [.int s, .int t])) :: x2 :: x3 :: x4 :: x5 :: x6 :: x7 :: x8 :: x9 :: x10 :: x11 :: (Sl.sh d12) :: x13 :: x14 :: (Sl.sh (.int (6 : Nat))) :: (Sl.sh (.int (5 : Nat))) :: Sl.un :: Sl.un :: Sl.un :: Sl.un :: Sl.un :: Sl.un :: Sl.un :: Sl.un :: Sl.un :: Sl.un :: Sl.un :: Sl.un :: Sl.un :: Sl.un :: Sl.un :: Sl.un :: []) = .ok .nx (x0 :: (Sl.ow (.lst [.int s, .int t])) :: x2 :: x3 :: x4 :: x5 :: x6 :: x7 :: x8 :: x9 :: x10 :: x11 :: (Sl.sh d12) :: x13 :: x14 :: (Sl.sh (.int (6 : Nat))) :: (Sl.sh (.int (5 : Nat))) :: (Sl.sh (chL 6 5)) :: Sl.un :: Sl.un :: Sl.un :: Sl.un :: Sl.un :: Sl.un :: Sl.un :: Sl.un :: Sl.un :: Sl.un :: Sl.un :: Sl.un :: Sl.un :: Sl.un :: Sl.un :: []) := by kernel_rfl
theorem t20_6_6 : (sSeq ml_20 ml_21) (x0 :: (Sl.ow (.lst [.int s, .int t])) :: x2 :: x3 :: x4 :: x5 :: x6 :: x7 :: x8 :: x9 :: x10 :: x11 :: (Sl.sh d12) :: x13 :: x14 :: (Sl.sh (.int (6 : Nat))) :: (Sl.sh (.int (6 : Nat))) :: Sl.un :: Sl.un :: Sl.un :: Sl.un :: Sl.un :: Sl.un :: Sl.un :: Sl.un :: Sl.un :: Sl.un :: Sl.un :: Sl.un :: Sl.un :: Sl.un :: Sl.un :: Sl.un :: []) = .ok .nx (x0 :: (Sl.ow (.lst [.int s, .int t])) :: x2 :: x3 :: x4 :: x5 :: x6 :: x7 :: x8 :: x9 :: x10 :: x11 :: (Sl.sh d12) :: x13 :: x14 :: (Sl.sh (.int (6 : Nat))) :: (Sl.sh (.int (6 : Nat))) :: (Sl.sh (chL 6 6)) :: Sl.un :: Sl.un :: Sl.un :: Sl.un :: Sl.un :: Sl.un :: Sl.un :: Sl.un :: Sl.un :: Sl.un :: Sl.un :: Sl.un :: Sl.un :: Sl.un :: Sl.un :: []) := by kernel_rfl
theorem t20_6 : ∀ k < 7, (sSeq ml_20 ml_21) (x0 :: (Sl.ow (.lst [.int s, .int t])) :: x2 :: x3 :: x4 :: x5 :: x6 :: x7 :: x8 :: x9 :: x10 :: x11 :: (Sl.sh d12) :: x13 :: x14 :: (Sl.sh (.int (6 : Nat))) :: (Sl.sh (.int (k : Nat))) :: Sl.un :: Sl.un :: Sl.un :: Sl.un :: Sl.un :: Sl.un :: Sl.un :: Sl.un :: Sl.un :: Sl.un :: Sl.un :: Sl.un :: Sl.un :: Sl.un :: Sl.un :: Sl.un :: []) = .ok .nx (x0 :: (Sl.ow (.lst [.int s, .int t])) :: x2 :: x3 :: x4 :: x5 :: x6 :: x7 :: x8 :: x9 :: x10 :: x11 :: (Sl.sh d12) :: x13 :: x14 :: (Sl.sh (.int (6 : Nat))) :: (Sl.sh (.int (k : Nat))) :: (Sl.sh (chL 6 k)) :: Sl.un :: Sl.un :: Sl.un :: Sl.un :: Sl.un :: Sl.un :: Sl.un :: Sl.un :: Sl.un :: Sl.un :: Sl.un :: Sl.un :: Sl.un :: Sl.un :: Sl.un :: [])
  | 0, _ => t20_6_0 x0 x2 x3 x4 x5 x6 x7 x8 x9 x10 x11 x13 x14 d12 s t
  | 1, _ => t20_6_1 x0 x2 x3 x4 x5 x6 x7 x8 x9 x10 x11 x13 x14 d12 s t
  | 2, _ => t20_6_2 x0 x2 x3 x4 x5 x6 x7 x8 x9 x10 x11 x13 x14 d12 s t
  | 3, _ => t20_6_3 x0 x2 x3 x4 x5 x6 x7 x8 x9 x10 x11 x13 x14 d12 s t
  | 4, _ => t20_6_4 x0 x2 x3 x4 x5 x6 x7 x8 x9 x10 x11 x13 x14 d12 s t
  | 5, _ => t20_6_5 x0 x2 x3 x4 x5 x6 x7 x8 x9 x10 x11 x13 x14 d12 s t
  | 6, _ => t20_6_6 x0 x2 x3 x4 x5 x6 x7 x8 x9 x10 x11 x13 x14 d12 s t
  | k + 7, h => absurd h (by omega)
theorem t20 : ∀ m < 7, ∀ k < 7, (sSeq ml_20 ml_21) (x0 :: (Sl.ow (.lst [.int s, .int t])) :: x2 :: x3 :: x4 :: x5 :: x6 :: x7 :: x8 :: x9 :: x10 :: x11 :: (Sl.sh d12) :: x13 :: x14 :: (Sl.sh (.int (m : Nat))) :: (Sl.sh (.int (k : Nat))) :: Sl.un :: Sl.un :: Sl.un :: Sl.un :: Sl.un :: Sl.un :: Sl.un :: Sl.un :: Sl.un :: Sl.un :: Sl.un :: Sl.un :: Sl.un :: Sl.un :: Sl.un :: Sl.un :: []) = .ok .nx (x0 :: (Sl.ow (.lst [.int s, .int t])) :: x2 :: x3 :: x4 :: x5 :: x6 :: x7 :: x8 :: x9 :: x10 :: x11 :: (Sl.sh d12) :: x13 :: x14 :: (Sl.sh (.int (m : Nat))) :: (Sl.sh (.int (k : Nat))) :: (Sl.sh (chL m k)) :: Sl.un :: Sl.un :: Sl.un :: Sl.un :: Sl.un :: Sl.un :: Sl.un :: Sl.un :: Sl.un :: Sl.un :: Sl.un :: Sl.un :: Sl.un :: Sl.un :: Sl.un :: [])
  | 0, _ => t20_0 x0 x2 x3 x4 x5 x6 x7 x8 x9 x10 x11 x13 x14 d12 s t
  | 1, _ => t20_1 x0 x2 x3 x4 x5 x6 x7 x8 x9 x10 x11 x13 x14 d12 s t
  | 2, _ => t20_2 x0 x2 x3 x4 x5 x6 x7 x8 x9 x10 x11 x13 x14 d12 s t
  | 3, _ => t20_3 x0 x2 x3 x4 x5 x6 x7 x8 x9 x10 x11 x13 x14 d12 s t
  | 4, _ => t20_4 x0 x2 x3 x4 x5 x6 x7 x8 x9 x10 x11 x13 x14 d12 s t
  | 5, _ => t20_5 x0 x2 x3 x4 x5 x6 x7 x8 x9 x10 x11 x13 x14 d12 s t
  | 6, _ => t20_6 x0 x2 x3 x4 x5 x6 x7 x8 x9 x10 x11 x13 x14 d12 s t
  | m + 7, h => absurd h (by omega)
end
/-! orders -/
def perms : Nat → List (List Int)
  | 0 => [[]]
  | 1 => [[0]]
  | 2 => [[0, 1], [1, 0]]
  | 3 => [[0, 1, 2], [0, 2, 1], [1, 0, 2], [1, 2, 0], [2, 0, 1], [2, 1, 0]]
  | 4 => [[0, 1, 2, 3], [0, 1, 3, 2], [0, 2, 1, 3], [0, 2, 3, 1], [0, 3, 1, 2], [0, 3, 2, 1], [1, 0, 2, 3], [1, 0, 3, 2], [1, 2, 0, 3], [1, 2, 3, 0], [1, 3, 0, 2], [1, 3, 2, 0], [2, 0, 1, 3], [2, 0, 3, 1], [2, 1, 0, 3], [2, 1, 3, 0], [2, 3, 0, 1], [2, 3, 1, 0], [3, 0, 1, 2], [3, 0, 2, 1], [3, 1, 0, 2], [3, 1, 2, 0], [3, 2, 0, 1], [3, 2, 1, 0]]
  | _ => []
def tj (p : List Int) : D := .tup (p.map .int)
def pick (xs : List D) (p : List Int) : D := .tup (p.map fun i => xs.getD i.toNat .non)
theorem lo_0 : f__law_orders [.tup []] = .ok (.fr (.lst ((perms 0).map tj))) := by kernel_rfl
theorem oo_0 : f_orders_of [.tup []] = .ok (.fr (.lst ((perms 0).map (pick [])))) := by kernel_rfl
theorem lo_1 (y0 : D) : f__law_orders [.tup [y0]] = .ok (.sh (.lst ((perms 1).map tj))) := by kernel_rfl
theorem oo_1 (y0 : D) : f_orders_of [.tup [y0]] = .ok (.fr (.lst ((perms 1).map (pick [y0])))) := by kernel_rfl
theorem lo_2 (y0 y1 : D) : f__law_orders [.tup [y0, y1]] = .ok (.sh (.lst ((perms 2).map tj))) := by kernel_rfl
theorem oo_2 (y0 y1 : D) : f_orders_of [.tup [y0, y1]] = .ok (.fr (.lst ((perms 2).map (pick [y0, y1])))) := by kernel_rfl
theorem lo_3 (y0 y1 y2 : D) : f__law_orders [.tup [y0, y1, y2]] = .ok (.sh (.lst ((perms 3).map tj))) := by kernel_rfl
theorem oo_3 (y0 y1 y2 : D) : f_orders_of [.tup [y0, y1, y2]] = .ok (.fr (.lst ((perms 3).map (pick [y0, y1, y2])))) := by kernel_rfl
theorem lo_4 (y0 y1 y2 y3 : D) : f__law_orders [.tup [y0, y1, y2, y3]] = .ok (.sh (.lst ((perms 4).map tj))) := by kernel_rfl
theorem oo_4 (y0 y1 y2 y3 : D) : f_orders_of [.tup [y0, y1, y2, y3]] = .ok (.fr (.lst ((perms 4).map (pick [y0, y1, y2, y3])))) := by kernel_rfl
section
variable (x0 x2 x3 x4 x5 x6 x7 x8 x9 x10 x11 x13 x14 x15 x16 x17 x18 : Sl) (d12 : D) (s t : Int)
theorem t25_0 : ml_25 (x0 :: (Sl.ow (.lst [.int s, .int t])) :: x2 :: x3 :: x4 :: x5 :: x6 :: x7 :: x8 :: x9 :: x10 :: x11 :: (Sl.sh d12) :: x13 :: x14 :: x15 :: x16 :: x17 :: x18 :: (Sl.sh (.lst ((perms 0).map tj))) :: Sl.un :: Sl.un :: Sl.un :: Sl.un :: Sl.un :: Sl.un :: Sl.un :: Sl.un :: Sl.un :: Sl.un :: Sl.un :: Sl.un :: Sl.un :: []) = .ok .nx (x0 :: (Sl.ow (.lst [.int s, .int t])) :: x2 :: x3 :: x4 :: x5 :: x6 :: x7 :: x8 :: x9 :: x10 :: x11 :: (Sl.sh d12) :: x13 :: x14 :: x15 :: x16 :: x17 :: x18 :: (Sl.sh (.lst ((perms 0).map tj))) :: (Sl.sh (tj [])) :: (Sl.sh (.int 0)) :: Sl.un :: Sl.un :: Sl.un :: Sl.un :: Sl.un :: Sl.un :: Sl.un :: Sl.un :: Sl.un :: Sl.un :: Sl.un :: []) := by kernel_rfl
theorem t25_1 : ml_25 (x0 :: (Sl.ow (.lst [.int s, .int t])) :: x2 :: x3 :: x4 :: x5 :: x6 :: x7 :: x8 :: x9 :: x10 :: x11 :: (Sl.sh d12) :: x13 :: x14 :: x15 :: x16 :: x17 :: x18 :: (Sl.sh (.lst ((perms 1).map tj))) :: Sl.un :: Sl.un :: Sl.un :: Sl.un :: Sl.un :: Sl.un :: Sl.un :: Sl.un :: Sl.un :: Sl.un :: Sl.un :: Sl.un :: Sl.un :: []) = .ok .nx (x0 :: (Sl.ow (.lst [.int s, .int t])) :: x2 :: x3 :: x4 :: x5 :: x6 :: x7 :: x8 :: x9 :: x10 :: x11 :: (Sl.sh d12) :: x13 :: x14 :: x15 :: x16 :: x17 :: x18 :: (Sl.sh (.lst ((perms 1).map tj))) :: (Sl.sh (tj [0])) :: (Sl.sh (.int 0)) :: Sl.un :: Sl.un :: Sl.un :: Sl.un :: Sl.un :: Sl.un :: Sl.un :: Sl.un :: Sl.un :: Sl.un :: Sl.un :: []) := by kernel_rfl
theorem t25_2 : ml_25 (x0 :: (Sl.ow (.lst [.int s, .int t])) :: x2 :: x3 :: x4 :: x5 :: x6 :: x7 :: x8 :: x9 :: x10 :: x11 :: (Sl.sh d12) :: x13 :: x14 :: x15 :: x16 :: x17 :: x18 :: (Sl.sh (.lst ((perms 2).map tj))) :: Sl.un :: Sl.un :: Sl.un :: Sl.un :: Sl.un :: Sl.un :: Sl.un :: Sl.un :: Sl.un :: Sl.un :: Sl.un :: Sl.un :: Sl.un :: []) = .ok .nx (x0 :: (Sl.ow (.lst [.int s, .int t])) :: x2 :: x3 :: x4 :: x5 :: x6 :: x7 :: x8 :: x9 :: x10 :: x11 :: (Sl.sh d12) :: x13 :: x14 :: x15 :: x16 :: x17 :: x18 :: (Sl.sh (.lst ((perms 2).map tj))) :: (Sl.sh (tj [1, 0])) :: (Sl.sh (.int 1)) :: Sl.un :: Sl.un :: Sl.un :: Sl.un :: Sl.un :: Sl.un :: Sl.un :: Sl.un :: Sl.un :: Sl.un :: Sl.un :: []) := by kernel_rfl
theorem t25_3 : ml_25 (x0 :: (Sl.ow (.lst [.int s, .int t])) :: x2 :: x3 :: x4 :: x5 :: x6 :: x7 :: x8 :: x9 :: x10 :: x11 :: (Sl.sh d12) :: x13 :: x14 :: x15 :: x16 :: x17 :: x18 :: (Sl.sh (.lst ((perms 3).map tj))) :: Sl.un :: Sl.un :: Sl.un :: Sl.un :: Sl.un :: Sl.un :: Sl.un :: Sl.un :: Sl.un :: Sl.un :: Sl.un :: Sl.un :: Sl.un :: []) = .ok .nx (x0 :: (Sl.ow (.lst [.int s, .int t])) :: x2 :: x3 :: x4 :: x5 :: x6 :: x7 :: x8 :: x9 :: x10 :: x11 :: (Sl.sh d12) :: x13 :: x14 :: x15 :: x16 :: x17 :: x18 :: (Sl.sh (.lst ((perms 3).map tj))) :: (Sl.sh (tj [2, 1, 0])) :: (Sl.sh (.int 3)) :: Sl.un :: Sl.un :: Sl.un :: Sl.un :: Sl.un :: Sl.un :: Sl.un :: Sl.un :: Sl.un :: Sl.un :: Sl.un :: []) := by kernel_rfl
theorem t25_4 : ml_25 (x0 :: (Sl.ow (.lst [.int s, .int t])) :: x2 :: x3 :: x4 :: x5 :: x6 :: x7 :: x8 :: x9 :: x10 :: x11 :: (Sl.sh d12) :: x13 :: x14 :: x15 :: x16 :: x17 :: x18 :: (Sl.sh (.lst ((perms 4).map tj))) :: Sl.un :: Sl.un :: Sl.un :: Sl.un :: Sl.un :: Sl.un :: Sl.un :: Sl.un :: Sl.un :: Sl.un :: Sl.un :: Sl.un :: Sl.un :: []) = .ok .nx (x0 :: (Sl.ow (.lst [.int s, .int t])) :: x2 :: x3 :: x4 :: x5 :: x6 :: x7 :: x8 :: x9 :: x10 :: x11 :: (Sl.sh d12) :: x13 :: x14 :: x15 :: x16 :: x17 :: x18 :: (Sl.sh (.lst ((perms 4).map tj))) :: (Sl.sh (tj [3, 2, 1, 0])) :: (Sl.sh (.int 6)) :: Sl.un :: Sl.un :: Sl.un :: Sl.un :: Sl.un :: Sl.un :: Sl.un :: Sl.un :: Sl.un :: Sl.un :: Sl.un :: []) := by kernel_rfl
end
end K00

/-! Printed by gen.py: the head's facts. -/
namespace K00
open PySem PySem.Spec PyProof.Rows L2 MM
def dD_is_integer : He.DefD := ⟨("is_integer", none), "is_integer", "is_integer", defArgs s_is_integer, defBody s_is_integer, defScope s_is_integer, [], []⟩
def dD_is_row : He.DefD := ⟨("is_row", none), "is_row", "is_row", defArgs s_is_row, defBody s_is_row, defScope s_is_row, [], []⟩
def dD_check_from : He.DefD := ⟨("check_from", none), "check_from", "check_from", defArgs s_check_from, defBody s_check_from, defScope s_check_from, [], []⟩
def dD_common : He.DefD := ⟨("common", none), "common", "common", defArgs s_common, defBody s_common, defScope s_common, [], []⟩
def dD_common_of : He.DefD := ⟨("common_of", none), "common_of", "common_of", defArgs s_common_of, defBody s_common_of, defScope s_common_of, [], []⟩
def dD_least_multiple : He.DefD := ⟨("least_multiple", none), "least_multiple", "least_multiple", defArgs s_least_multiple, defBody s_least_multiple, defScope s_least_multiple, [], []⟩
def dD_power : He.DefD := ⟨("power", none), "power", "power", defArgs s_power, defBody s_power, defScope s_power, [], []⟩
def dD_sign_of : He.DefD := ⟨("sign_of", none), "sign_of", "sign_of", defArgs s_sign_of, defBody s_sign_of, defScope s_sign_of, [], []⟩
def dD_choose : He.DefD := ⟨("choose", none), "choose", "choose", defArgs s_choose, defBody s_choose, defScope s_choose, [], []⟩
def dD_factorial : He.DefD := ⟨("factorial", none), "factorial", "factorial", defArgs s_factorial, defBody s_factorial, defScope s_factorial, [], []⟩
def dD_choices_of : He.DefD := ⟨("choices_of", none), "choices_of", "choices_of", defArgs s_choices_of, defBody s_choices_of, defScope s_choices_of, [], []⟩
def dD_orders_of : He.DefD := ⟨("orders_of", none), "orders_of", "orders_of", defArgs s_orders_of, defBody s_orders_of, defScope s_orders_of, [], []⟩
def dD_order_sign : He.DefD := ⟨("order_sign", none), "order_sign", "order_sign", defArgs s_order_sign, defBody s_order_sign, defScope s_order_sign, [], []⟩
def dD_divisors : He.DefD := ⟨("divisors", none), "divisors", "divisors", defArgs s_divisors, defBody s_divisors, defScope s_divisors, [], []⟩
def dD_mobius : He.DefD := ⟨("mobius", none), "mobius", "mobius", defArgs s_mobius, defBody s_mobius, defScope s_mobius, [], []⟩
def dD_partitions_of : He.DefD := ⟨("partitions_of", none), "partitions_of", "partitions_of", defArgs s_partitions_of, defBody s_partitions_of, defScope s_partitions_of, [], []⟩
def dD_is_partition : He.DefD := ⟨("is_partition", none), "is_partition", "is_partition", defArgs s_is_partition, defBody s_is_partition, defScope s_is_partition, [], []⟩
def dD_flipped : He.DefD := ⟨("flipped", none), "flipped", "flipped", defArgs s_flipped, defBody s_flipped, defScope s_flipped, [], []⟩
def dD_is_over : He.DefD := ⟨("is_over", none), "is_over", "is_over", defArgs s_is_over, defBody s_is_over, defScope s_is_over, [], []⟩
def dD__law_state : He.DefD := ⟨("_law_state", none), "_law_state", "_law_state", defArgs s__law_state, defBody s__law_state, defScope s__law_state, [], []⟩
def dD__law_take : He.DefD := ⟨("_law_take", none), "_law_take", "_law_take", defArgs s__law_take, defBody s__law_take, defScope s__law_take, [], []⟩
def dD__law_says : He.DefD := ⟨("_law_says", none), "_law_says", "_law_says", defArgs s__law_says, defBody s__law_says, defScope s__law_says, [], []⟩
def dD__law_is_whole : He.DefD := ⟨("_law_is_whole", none), "_law_is_whole", "_law_is_whole", defArgs s__law_is_whole, defBody s__law_is_whole, defScope s__law_is_whole, [], []⟩
def dD__law_same : He.DefD := ⟨("_law_same", none), "_law_same", "_law_same", defArgs s__law_same, defBody s__law_same, defScope s__law_same, [], []⟩
def dD__law_told : He.DefD := ⟨("_law_told", none), "_law_told", "_law_told", defArgs s__law_told, defBody s__law_told, defScope s__law_told, [], []⟩
def dD__law_all_malformed : He.DefD := ⟨("_law_all_malformed", none), "_law_all_malformed", "_law_all_malformed", defArgs s__law_all_malformed, defBody s__law_all_malformed, defScope s__law_all_malformed, [], []⟩
def dD__law_choices : He.DefD := ⟨("_law_choices", none), "_law_choices", "_law_choices", defArgs s__law_choices, defBody s__law_choices, defScope s__law_choices, [], []⟩
def dD__law_divisors : He.DefD := ⟨("_law_divisors", none), "_law_divisors", "_law_divisors", defArgs s__law_divisors, defBody s__law_divisors, defScope s__law_divisors, [], []⟩
def dD__law_mobius : He.DefD := ⟨("_law_mobius", none), "_law_mobius", "_law_mobius", defArgs s__law_mobius, defBody s__law_mobius, defScope s__law_mobius, [], []⟩
def dD__law_orders : He.DefD := ⟨("_law_orders", none), "_law_orders", "_law_orders", defArgs s__law_orders, defBody s__law_orders, defScope s__law_orders, [], []⟩
def dD__law_partitions : He.DefD := ⟨("_law_partitions", none), "_law_partitions", "_law_partitions", defArgs s__law_partitions, defBody s__law_partitions, defScope s__law_partitions, [], []⟩
def dD_law : He.DefD := ⟨("law", none), "law", "law", defArgs s_law, defBody s_law, defScope s_law, [], []⟩
def fnl : List He.DefD := (([dD_is_integer, dD_is_row, dD_check_from, dD_common, dD_common_of, dD_least_multiple, dD_power, dD_sign_of, dD_choose, dD_factorial, dD_choices_of, dD_orders_of, dD_order_sign, dD_divisors, dD_mobius, dD_partitions_of, dD_is_partition, dD_flipped, dD_is_over, dD__law_state, dD__law_take, dD__law_says, dD__law_is_whole, dD__law_same, dD__law_told, dD__law_all_malformed, dD__law_choices, dD__law_divisors, dD__law_mobius, dD__law_orders] : List He.DefD) ++ ([dD__law_partitions, dD_law] : List He.DefD))
def fal : List He.Fa := (([.glo "Fault", .glo "Malformed", .glo "Refused", .glo "is_integer", .glo "is_row", .glo "check_from", .glo "common", .glo "common_of", .glo "least_multiple", .glo "power", .glo "sign_of", .glo "choose", .glo "factorial", .glo "choices_of", .glo "orders_of", .glo "order_sign", .glo "divisors", .glo "mobius", .glo "partitions_of", .glo "is_partition", .glo "flipped", .glo "is_over", .glo "_law_state", .glo "_law_take", .glo "_law_says", .glo "_law_is_whole", .glo "_law_same", .glo "_law_told", .glo "_law_all_malformed", .glo "_law_choices"] : List He.Fa) ++ ([.glo "_law_divisors", .glo "_law_mobius", .glo "_law_orders", .glo "_law_partitions", .glo "law", .free "abs", .free "all", .free "bool", .free "int", .free "isinstance", .free "len", .free "list", .free "max", .free "min", .free "range", .free "sorted", .free "str", .free "sum", .free "tuple", .free "zip", .exc "Fault", .exc "Malformed", .exm "Fault" "Fault" true, .exm "Fault" "Malformed" false, .exm "Fault" "Refused" false, .exm "Malformed" "Fault" true, .exm "Malformed" "Malformed" true, .exm "Malformed" "Refused" false, .exm "Refused" "Fault" true, .exm "Refused" "Malformed" false] : List He.Fa) ++ ([.exm "Refused" "Refused" true] : List He.Fa))
theorem txt_of {K : PySem.W.Frag} {h : Heap} {mg : Str → Option Value} (X : K.In h) (G : h.Ns mainGlobals mg) (c : He.SaysD fal fnl K) : Txt K mg where
  f_is_integer := c.def_ 0 (d := dD_is_integer) rfl
  f_is_row := c.def_ 1 (d := dD_is_row) rfl
  f_check_from := c.def_ 2 (d := dD_check_from) rfl
  f_common := c.def_ 3 (d := dD_common) rfl
  f_common_of := c.def_ 4 (d := dD_common_of) rfl
  f_least_multiple := c.def_ 5 (d := dD_least_multiple) rfl
  f_power := c.def_ 6 (d := dD_power) rfl
  f_sign_of := c.def_ 7 (d := dD_sign_of) rfl
  f_choose := c.def_ 8 (d := dD_choose) rfl
  f_factorial := c.def_ 9 (d := dD_factorial) rfl
  f_choices_of := c.def_ 10 (d := dD_choices_of) rfl
  f_orders_of := c.def_ 11 (d := dD_orders_of) rfl
  f_order_sign := c.def_ 12 (d := dD_order_sign) rfl
  f_divisors := c.def_ 13 (d := dD_divisors) rfl
  f_mobius := c.def_ 14 (d := dD_mobius) rfl
  f_partitions_of := c.def_ 15 (d := dD_partitions_of) rfl
  f_is_partition := c.def_ 16 (d := dD_is_partition) rfl
  f_flipped := c.def_ 17 (d := dD_flipped) rfl
  f_is_over := c.def_ 18 (d := dD_is_over) rfl
  f__law_state := c.def_ 19 (d := dD__law_state) rfl
  f__law_take := c.def_ 20 (d := dD__law_take) rfl
  f__law_says := c.def_ 21 (d := dD__law_says) rfl
  f__law_is_whole := c.def_ 22 (d := dD__law_is_whole) rfl
  f__law_same := c.def_ 23 (d := dD__law_same) rfl
  f__law_told := c.def_ 24 (d := dD__law_told) rfl
  f__law_all_malformed := c.def_ 25 (d := dD__law_all_malformed) rfl
  f__law_choices := c.def_ 26 (d := dD__law_choices) rfl
  f__law_divisors := c.def_ 27 (d := dD__law_divisors) rfl
  f__law_mobius := c.def_ 28 (d := dD__law_mobius) rfl
  f__law_orders := c.def_ 29 (d := dD__law_orders) rfl
  f__law_partitions := c.def_ 30 (d := dD__law_partitions) rfl
  f_law := c.def_ 31 (d := dD_law) rfl
  g_Fault := He.glo_ok X G (c.fact 0 (f := .glo "Fault") rfl)
  g_Malformed := He.glo_ok X G (c.fact 1 (f := .glo "Malformed") rfl)
  g_Refused := He.glo_ok X G (c.fact 2 (f := .glo "Refused") rfl)
  g_is_integer := He.glo_ok X G (c.fact 3 (f := .glo "is_integer") rfl)
  g_is_row := He.glo_ok X G (c.fact 4 (f := .glo "is_row") rfl)
  g_check_from := He.glo_ok X G (c.fact 5 (f := .glo "check_from") rfl)
  g_common := He.glo_ok X G (c.fact 6 (f := .glo "common") rfl)
  g_common_of := He.glo_ok X G (c.fact 7 (f := .glo "common_of") rfl)
  g_least_multiple := He.glo_ok X G (c.fact 8 (f := .glo "least_multiple") rfl)
  g_power := He.glo_ok X G (c.fact 9 (f := .glo "power") rfl)
  g_sign_of := He.glo_ok X G (c.fact 10 (f := .glo "sign_of") rfl)
  g_choose := He.glo_ok X G (c.fact 11 (f := .glo "choose") rfl)
  g_factorial := He.glo_ok X G (c.fact 12 (f := .glo "factorial") rfl)
  g_choices_of := He.glo_ok X G (c.fact 13 (f := .glo "choices_of") rfl)
  g_orders_of := He.glo_ok X G (c.fact 14 (f := .glo "orders_of") rfl)
  g_order_sign := He.glo_ok X G (c.fact 15 (f := .glo "order_sign") rfl)
  g_divisors := He.glo_ok X G (c.fact 16 (f := .glo "divisors") rfl)
  g_mobius := He.glo_ok X G (c.fact 17 (f := .glo "mobius") rfl)
  g_partitions_of := He.glo_ok X G (c.fact 18 (f := .glo "partitions_of") rfl)
  g_is_partition := He.glo_ok X G (c.fact 19 (f := .glo "is_partition") rfl)
  g_flipped := He.glo_ok X G (c.fact 20 (f := .glo "flipped") rfl)
  g_is_over := He.glo_ok X G (c.fact 21 (f := .glo "is_over") rfl)
  g__law_state := He.glo_ok X G (c.fact 22 (f := .glo "_law_state") rfl)
  g__law_take := He.glo_ok X G (c.fact 23 (f := .glo "_law_take") rfl)
  g__law_says := He.glo_ok X G (c.fact 24 (f := .glo "_law_says") rfl)
  g__law_is_whole := He.glo_ok X G (c.fact 25 (f := .glo "_law_is_whole") rfl)
  g__law_same := He.glo_ok X G (c.fact 26 (f := .glo "_law_same") rfl)
  g__law_told := He.glo_ok X G (c.fact 27 (f := .glo "_law_told") rfl)
  g__law_all_malformed := He.glo_ok X G (c.fact 28 (f := .glo "_law_all_malformed") rfl)
  g__law_choices := He.glo_ok X G (c.fact 29 (f := .glo "_law_choices") rfl)
  g__law_divisors := He.glo_ok X G (c.fact 30 (f := .glo "_law_divisors") rfl)
  g__law_mobius := He.glo_ok X G (c.fact 31 (f := .glo "_law_mobius") rfl)
  g__law_orders := He.glo_ok X G (c.fact 32 (f := .glo "_law_orders") rfl)
  g__law_partitions := He.glo_ok X G (c.fact 33 (f := .glo "_law_partitions") rfl)
  g_law := He.glo_ok X G (c.fact 34 (f := .glo "law") rfl)
  z_abs := He.free_ok X G (c.fact 35 (f := .free "abs") rfl)
  z_all := He.free_ok X G (c.fact 36 (f := .free "all") rfl)
  z_bool := He.free_ok X G (c.fact 37 (f := .free "bool") rfl)
  z_int := He.free_ok X G (c.fact 38 (f := .free "int") rfl)
  z_isinstance := He.free_ok X G (c.fact 39 (f := .free "isinstance") rfl)
  z_len := He.free_ok X G (c.fact 40 (f := .free "len") rfl)
  z_list := He.free_ok X G (c.fact 41 (f := .free "list") rfl)
  z_max := He.free_ok X G (c.fact 42 (f := .free "max") rfl)
  z_min := He.free_ok X G (c.fact 43 (f := .free "min") rfl)
  z_range := He.free_ok X G (c.fact 44 (f := .free "range") rfl)
  z_sorted := He.free_ok X G (c.fact 45 (f := .free "sorted") rfl)
  z_str := He.free_ok X G (c.fact 46 (f := .free "str") rfl)
  z_sum := He.free_ok X G (c.fact 47 (f := .free "sum") rfl)
  z_tuple := He.free_ok X G (c.fact 48 (f := .free "tuple") rfl)
  z_zip := He.free_ok X G (c.fact 49 (f := .free "zip") rfl)
  x_Fault := ⟨He.exc_ok (c.fact 50 (f := .exc "Fault") rfl)⟩
  x_Malformed := ⟨He.exc_ok (c.fact 51 (f := .exc "Malformed") rfl)⟩
  sub := fun i j b h => by
    unfold sub at h
    split at h
    · cases h; exact He.exm_ok (c.fact 52 (f := .exm "Fault" "Fault" true) rfl)
    · cases h; exact He.exm_ok (c.fact 53 (f := .exm "Fault" "Malformed" false) rfl)
    · cases h; exact He.exm_ok (c.fact 54 (f := .exm "Fault" "Refused" false) rfl)
    · cases h; exact He.exm_ok (c.fact 55 (f := .exm "Malformed" "Fault" true) rfl)
    · cases h; exact He.exm_ok (c.fact 56 (f := .exm "Malformed" "Malformed" true) rfl)
    · cases h; exact He.exm_ok (c.fact 57 (f := .exm "Malformed" "Refused" false) rfl)
    · cases h; exact He.exm_ok (c.fact 58 (f := .exm "Refused" "Fault" true) rfl)
    · cases h; exact He.exm_ok (c.fact 59 (f := .exm "Refused" "Malformed" false) rfl)
    · cases h; exact He.exm_ok (c.fact 60 (f := .exm "Refused" "Refused" true) rfl)
    · cases h
abbrev R : PySem.W.OpenRow := PySem.W.OpenLaw.row PySem.Challenge.rw_bracketroads_k00_whole_integers_choices
abbrev hk : PySem.W.Hook := He.hookD 4 fal fnl
def ob (s : PySem.W.SharedT) : He.AlD := He.obsDG 4 fal fnl (HandSHeadRun.getT s)
theorem ob_eq (s : PySem.W.SharedT) : ob s = hk.obs s.abs := He.obsDG_eq (HandSHeadRun.getT_eq s)
def oth : List Str := ((["Fault", "Malformed", "Refused", "is_integer", "is_row", "check_from", "common", "common_of", "least_multiple", "power", "sign_of", "choose", "factorial", "choices_of", "orders_of", "order_sign", "divisors", "mobius", "partitions_of", "is_partition", "flipped", "is_over", "_law_state", "_law_take", "_law_says", "_law_is_whole", "_law_same", "_law_told", "_law_all_malformed", "_law_choices"] : List Str) ++ (["_law_divisors", "_law_mobius", "_law_orders", "_law_partitions"] : List Str))
theorem run (w : World) : HandSHeadRun.RunEq R (PySem.W.view R.prog [37]) hk ob 4000 oth w := by
  intro os
  kernel_rfl
/-- what is left to show: the law's function gives True -/
def Due : Prop := ∀ ns : List Int, ns.length ≤ 63 → ∃ r, f_law [.scr (ns.map .int)] = .ok r ∧ r.d = .bl true
theorem facts {P : Program} {w : World} {K : PySem.W.Frag} {h : Heap} {mg : Str → Option Value} {f : Addr} (X : K.In h) (G : h.Ns mainGlobals mg) (hfa : mg ("law" : Str) = some (.ref f)) (c : He.SaysD fal fnl K) :
    ∃ fd : FuncData, (∀ (s : Shared) (v : Value), BindsTo s fd ⟨[v], []⟩ [("script", v)]) ∧ ∀ base : Heap, K.In base → base.Ns mainGlobals mg → FnOk P w K mg base (L2.CX P w) 15 f fd ["script"] (fspec (CC K) 1 f_law) := by
  have T := txt_of X G c
  have e := hfa.symm.trans T.g_law
  cases e
  obtain ⟨fd, F⟩ := T.f_law
  have b := FunD.bindsA (ps := ["script"]) F fun _ _ _ _ _ _ us hl => match us, hl with | [_], _ => rfl
  refine ⟨fd, fun s v => b s [v] rfl, fun base _ _ => law_fn T F⟩
end K00
open PySem PySem.W PySem.Calls PyProof.Rows
theorem K00.holds_of (due : K00.Due) : PySem.Challenge.rw_bracketroads_k00_whole_integers_choices.Holds := by
  w_on; o_law
  refine HandSHeadRun.head_any (r := OpenLaw.row PySem.Challenge.rw_bracketroads_k00_whole_integers_choices) (q := view (OpenLaw.row PySem.Challenge.rw_bracketroads_k00_whole_integers_choices).prog [37]) (H := K00.hk) (ob := K00.ob) (M := 4000) (loose := K00.oth) (d := HandSHeadRun.topDef (OpenLaw.row PySem.Challenge.rw_bracketroads_k00_whole_integers_choices).prog 37) (kwd := []) K00.ob_eq
    (by kernel_rfl) (fun s => by kernel_rfl) K00.run (by kernel_rfl) (by kernel_rfl) (by kernel_rfl) (by rfl) (by first | assumption | decide +kernel) (by decide +kernel) ⟨rfl, rfl, rfl, rfl, rfl, by decide +kernel⟩ ?hw ?hc
  case hw => w_witness2
  case hc =>
    refine L2.walk_ofE (l := PySem.Challenge.rw_bracketroads_k00_whole_integers_choices) (n := 63) (k := 15) (x := "script") (CX := L2.CX0) rfl (by decide) (by kernel_rfl) ⟨rfl, by decide, by decide⟩ ?F (fun _ _ _ _ z => z)
    intro w mg fa h Y G hmg0
    obtain ⟨K, KX, c⟩ := Y
    have hmg : mg ("law" : PySem.Str) = some (.ref fa) := by
      have e : (HandSHeadRun.topDef (OpenLaw.row PySem.Challenge.rw_bracketroads_k00_whole_integers_choices).prog 37).name = ("law" : PySem.Str) := by kernel_rfl
      rw [← e]
      exact hmg0
    obtain ⟨fd, hb, hF⟩ := K00.facts (P := (PySem.Challenge.rw_bracketroads_k00_whole_integers_choices).prog) (w := w) KX G hmg c
    exact ⟨K, fd, (fun vs H Q _ => MM.fspec (K00.CC K) 1 K00.f_law vs H Q fun _ _ _ => False), KX, hb, fun H a ns hl _ hS => MM.law_spec (C := K00.CC K) hS (due ns hl), fun base h1 h2 => MM.FnOk.noX (hF base h1 h2)⟩

/-! k00, plain: the law answers True. -/
namespace K00
open PySem PySem.Spec PyProof.Rows L2 MM
theorem same_self (n : Nat) (xs : List D) (hz : xs.length ≤ 1000000) (h : ∀ x ∈ xs, f__law_same n [x, x] = .ok (.sh (.bl true))) : f__law_same (n + 1) [.tup xs, .tup xs] = .ok (.sh (.bl true)) :=
  same_tup n xs xs rfl hz fun k x y h1 h2 => by
    rw [h1] at h2
    cases h2
    exact h x (List.mem_of_getElem? h1)
theorem same_int' (n : Nat) (i : Int) : f__law_same (n + 1) [.int i, .int i] = .ok (.sh (.bl true)) := by
  rw [same_int]
  simp
section
variable (z0 z5 z6 z7 z8 z9 z10 z13 z14 : Sl)
theorem s13 (s t a b n : Int) (h : 1 ≤ n ∧ n ≤ 300) : ml_13 (z0 :: (sT s t) :: (sI a) :: (sI b) :: (sI n) :: z5 :: z6 :: z7 :: z8 :: z9 :: z10 :: Sl.un :: Sl.un :: Sl.un :: Sl.un :: Sl.un :: Sl.un :: Sl.un :: Sl.un :: Sl.un :: Sl.un :: Sl.un :: Sl.un :: Sl.un :: Sl.un :: Sl.un :: Sl.un :: Sl.un :: Sl.un :: Sl.un :: Sl.un :: Sl.un :: Sl.un :: []) = .ok .nx (z0 :: (sT s t) :: (sI a) :: (sI b) :: (sI n) :: z5 :: z6 :: z7 :: z8 :: z9 :: z10 :: Sl.un :: Sl.un :: Sl.un :: Sl.un :: Sl.un :: Sl.un :: Sl.un :: Sl.un :: Sl.un :: Sl.un :: Sl.un :: Sl.un :: Sl.un :: Sl.un :: Sl.un :: Sl.un :: Sl.un :: Sl.un :: Sl.un :: Sl.un :: Sl.un :: Sl.un :: []) := by
  have dv := div_ok n h.1 (by omega)
  have lv := lcdiv_ok n h.1 (by omega)
  have q1 := same_ints 8 (divL n) (by have := divL_len n (by omega); omega)
  obtain ⟨i, m1, m2⟩ := mobius_ok (n - 1).toNat (by omega)
  rw [show 1 + (((n - 1).toNat : Nat) : Int) = n by omega] at m1 m2
  have q2 := same_int' 10 i
  exact sIfF (tOrF (tNotV_ok (eCall2_ok (eN1_ok (eCall1_ok (ra := .sh (.int n)) rfl dv) (R := .sh (.tup ((divL n).map .int))) rfl) (eCall1_ok (ra := .sh (.int n)) rfl lv) q1) rfl) (tOrF (tNotV_ok (eN2_ok (eCall1_ok (ra := .sh (.int n)) rfl dv) (rb := .sh (.ty .list)) rfl (R := .sh (.bl true)) rfl) rfl) (tNotV_ok (eCall2_ok (eCall1_ok (ra := .sh (.int n)) rfl m1) (eCall1_ok (ra := .sh (.int n)) rfl m2) q2) rfl))) rfl
theorem s14 (s t a b n : Int) : ∃ (k : Nat) (s' t' : Int), k < 9 ∧ ml_14 (z0 :: (sT s t) :: (sI a) :: (sI b) :: (sI n) :: z5 :: z6 :: z7 :: z8 :: z9 :: z10 :: Sl.un :: Sl.un :: Sl.un :: Sl.un :: Sl.un :: Sl.un :: Sl.un :: Sl.un :: Sl.un :: Sl.un :: Sl.un :: Sl.un :: Sl.un :: Sl.un :: Sl.un :: Sl.un :: Sl.un :: Sl.un :: Sl.un :: Sl.un :: Sl.un :: Sl.un :: []) = .ok .nx (z0 :: (sT s' t') :: (sI a) :: (sI b) :: (sI n) :: z5 :: z6 :: z7 :: z8 :: z9 :: z10 :: (sI 1) :: (sI (k : Nat)) :: Sl.un :: Sl.un :: Sl.un :: Sl.un :: Sl.un :: Sl.un :: Sl.un :: Sl.un :: Sl.un :: Sl.un :: Sl.un :: Sl.un :: Sl.un :: Sl.un :: Sl.un :: Sl.un :: Sl.un :: Sl.un :: Sl.un :: Sl.un :: []) := by
  obtain ⟨v, s1, t1, hv, q⟩ := draw_ok (ma := eC (.int 9)) (E := (z0 :: (sT s t) :: (sI a) :: (sI b) :: (sI n) :: z5 :: z6 :: z7 :: z8 :: z9 :: z10 :: Sl.un :: Sl.un :: Sl.un :: Sl.un :: Sl.un :: Sl.un :: Sl.un :: Sl.un :: Sl.un :: Sl.un :: Sl.un :: Sl.un :: Sl.un :: Sl.un :: Sl.un :: Sl.un :: Sl.un :: Sl.un :: Sl.un :: Sl.un :: Sl.un :: Sl.un :: [])) (s := s) (t := t) rfl rfl rfl (by decide) (by decide)
  refine ⟨v.toNat, s1, t1, by omega, ?_⟩
  rw [show sI ((v.toNat : Nat) : Int) = sI v by rw [show ((v.toNat : Nat) : Int) = v by omega]]
  exact sPar_ok rfl q
def mulN (x a : Int) : Nat → Int
  | 0 => x
  | k + 1 => mulN (x * a) a k
def tBody : M Fl := (sAsg 11 (e2 fMul (eV 11) (eV 2)))
theorem t_loop (z12 : Sl) (s t a b n : Int) (ha : a.natAbs ≤ 1000) : ∀ (ds : List D) (x : Int) (z13 : Sl), ∃ z13', forL (gNm 13) tBody ds (z0 :: (sT s t) :: (sI a) :: (sI b) :: (sI n) :: z5 :: z6 :: z7 :: z8 :: z9 :: z10 :: (sI x) :: z12 :: z13 :: Sl.un :: Sl.un :: Sl.un :: Sl.un :: Sl.un :: Sl.un :: Sl.un :: Sl.un :: Sl.un :: Sl.un :: Sl.un :: Sl.un :: Sl.un :: Sl.un :: Sl.un :: Sl.un :: Sl.un :: Sl.un :: Sl.un :: []) = .ok .nx (z0 :: (sT s t) :: (sI a) :: (sI b) :: (sI n) :: z5 :: z6 :: z7 :: z8 :: z9 :: z10 :: (sI (mulN x a ds.length)) :: z12 :: z13' :: Sl.un :: Sl.un :: Sl.un :: Sl.un :: Sl.un :: Sl.un :: Sl.un :: Sl.un :: Sl.un :: Sl.un :: Sl.un :: Sl.un :: Sl.un :: Sl.un :: Sl.un :: Sl.un :: Sl.un :: Sl.un :: Sl.un :: [])
  | [], x, z13 => ⟨z13, rfl⟩
  | d :: ds, x, z13 => by
    have e : tBody (z0 :: (sT s t) :: (sI a) :: (sI b) :: (sI n) :: z5 :: z6 :: z7 :: z8 :: z9 :: z10 :: (sI x) :: z12 :: (Sl.sh d) :: Sl.un :: Sl.un :: Sl.un :: Sl.un :: Sl.un :: Sl.un :: Sl.un :: Sl.un :: Sl.un :: Sl.un :: Sl.un :: Sl.un :: Sl.un :: Sl.un :: Sl.un :: Sl.un :: Sl.un :: Sl.un :: Sl.un :: []) = .ok .nx (z0 :: (sT s t) :: (sI a) :: (sI b) :: (sI n) :: z5 :: z6 :: z7 :: z8 :: z9 :: z10 :: (sI (x * a)) :: z12 :: (Sl.sh d) :: Sl.un :: Sl.un :: Sl.un :: Sl.un :: Sl.un :: Sl.un :: Sl.un :: Sl.un :: Sl.un :: Sl.un :: Sl.un :: Sl.un :: Sl.un :: Sl.un :: Sl.un :: Sl.un :: Sl.un :: Sl.un :: Sl.un :: []) := sAsgD (e2_ok rfl rfl (fMul_r x a (by omega))) rfl
    obtain ⟨z13', q⟩ := t_loop z12 s t a b n ha ds (x * a) (.sh d)
    refine ⟨z13', ?_⟩
    rw [show mulN x a (d :: ds).length = mulN (x * a) a ds.length from rfl, ← q]
    conv => lhs; unfold forL
    have e2 : (tBody (z0 :: (sT s t) :: (sI a) :: (sI b) :: (sI n) :: z5 :: z6 :: z7 :: z8 :: z9 :: z10 :: (sI x) :: z12 :: (Sl.sh d) :: Sl.un :: Sl.un :: Sl.un :: Sl.un :: Sl.un :: Sl.un :: Sl.un :: Sl.un :: Sl.un :: Sl.un :: Sl.un :: Sl.un :: Sl.un :: Sl.un :: Sl.un :: Sl.un :: Sl.un :: Sl.un :: Sl.un :: [])).bind (fun f E2 => match f with
      | .nx => forL (gNm 13) tBody ds E2
      | .ct => forL (gNm 13) tBody ds E2
      | .bk => .ok .nx E2
      | .rt r => .ok (.rt r) E2) = forL (gNm 13) tBody ds (z0 :: (sT s t) :: (sI a) :: (sI b) :: (sI n) :: z5 :: z6 :: z7 :: z8 :: z9 :: z10 :: (sI (x * a)) :: z12 :: (Sl.sh d) :: Sl.un :: Sl.un :: Sl.un :: Sl.un :: Sl.un :: Sl.un :: Sl.un :: Sl.un :: Sl.un :: Sl.un :: Sl.un :: Sl.un :: Sl.un :: Sl.un :: Sl.un :: Sl.un :: Sl.un :: Sl.un :: Sl.un :: []) := by rw [e]; rfl
    exact e2
theorem rgD_len (lo : Int) (n : Nat) : (rgD lo n).length = n := by
  unfold rgD
  rw [List.length_map, List.length_range]
theorem s15 (s t a b n : Int) (ha : a.natAbs ≤ 1000) (k : Nat) (hk : k < 9) : ∃ z13, ml_15 (z0 :: (sT s t) :: (sI a) :: (sI b) :: (sI n) :: z5 :: z6 :: z7 :: z8 :: z9 :: z10 :: (sI 1) :: (sI (k : Nat)) :: Sl.un :: Sl.un :: Sl.un :: Sl.un :: Sl.un :: Sl.un :: Sl.un :: Sl.un :: Sl.un :: Sl.un :: Sl.un :: Sl.un :: Sl.un :: Sl.un :: Sl.un :: Sl.un :: Sl.un :: Sl.un :: Sl.un :: Sl.un :: []) = .ok .nx (z0 :: (sT s t) :: (sI a) :: (sI b) :: (sI n) :: z5 :: z6 :: z7 :: z8 :: z9 :: z10 :: (sI (mulN 1 a k)) :: (sI (k : Nat)) :: z13 :: Sl.un :: Sl.un :: Sl.un :: Sl.un :: Sl.un :: Sl.un :: Sl.un :: Sl.un :: Sl.un :: Sl.un :: Sl.un :: Sl.un :: Sl.un :: Sl.un :: Sl.un :: Sl.un :: Sl.un :: Sl.un :: Sl.un :: []) := by
  obtain ⟨z, q⟩ := t_loop z0 z5 z6 z7 z8 z9 z10 (sI (k : Nat)) s t a b n ha (rgD 0 k) 1 .un
  rw [rgD_len] at q
  exact ⟨z, sForD (iN1_ok (r := .sh (.int (k : Nat))) (E1 := (z0 :: (sT s t) :: (sI a) :: (sI b) :: (sI n) :: z5 :: z6 :: z7 :: z8 :: z9 :: z10 :: (sI 1) :: (sI (k : Nat)) :: Sl.un :: Sl.un :: Sl.un :: Sl.un :: Sl.un :: Sl.un :: Sl.un :: Sl.un :: Sl.un :: Sl.un :: Sl.un :: Sl.un :: Sl.un :: Sl.un :: Sl.un :: Sl.un :: Sl.un :: Sl.un :: Sl.un :: Sl.un :: [])) rfl (rg1_n k (by omega))) q⟩
theorem pow_loop (a k : Int) (ha : a.natAbs ≤ 1000) : ∀ (ds : List D) (x : Int) (z : Sl), ∃ z', forL (gNm 3) (sAsg 2 (e2 fMul (eV 2) (eV 0))) ds [sI a, sI k, sI x, z] = .ok .nx [sI a, sI k, sI (mulN x a ds.length), z']
  | [], x, z => ⟨z, rfl⟩
  | d :: ds, x, z => by
    have e : sAsg 2 (e2 fMul (eV 2) (eV 0)) [sI a, sI k, sI x, .sh d] = .ok .nx [sI a, sI k, sI (x * a), .sh d] := sAsgD (e2_ok rfl rfl (fMul_r x a (by omega))) rfl
    obtain ⟨z', q⟩ := pow_loop a k ha ds (x * a) (.sh d)
    refine ⟨z', ?_⟩
    rw [show mulN x a (d :: ds).length = mulN (x * a) a ds.length from rfl, ← q]
    conv => lhs; unfold forL
    have e2 : (sAsg 2 (e2 fMul (eV 2) (eV 0)) [sI a, sI k, sI x, .sh d]).bind (fun f E2 => match f with
      | .nx => forL (gNm 3) (sAsg 2 (e2 fMul (eV 2) (eV 0))) ds E2
      | .ct => forL (gNm 3) (sAsg 2 (e2 fMul (eV 2) (eV 0))) ds E2
      | .bk => .ok .nx E2
      | .rt r => .ok (.rt r) E2) = forL (gNm 3) (sAsg 2 (e2 fMul (eV 2) (eV 0))) ds [sI a, sI k, sI (x * a), .sh d] := by rw [e]; rfl
    exact e2
theorem power_ok (a : Int) (k : Nat) (ha : a.natAbs ≤ 1000) (hk : k < 9) : f_power [.int a, .int (k : Nat)] = .ok (.sh (.int (mulN 1 a k))) := by
  obtain ⟨z, q⟩ := pow_loop a k ha (rgD 0 k) 1 .un
  rw [rgD_len] at q
  refine mFn_rt (E := [sI a, sI (k : Nat), sI (mulN 1 a k), z]) ?_
  have h : sFor (iN rg1 (aCons (eV 1) (aNil))) (gNm 3) (sAsg 2 (e2 fMul (eV 2) (eV 0))) [sI a, sI (k : Nat), sI 1, .un] = .ok .nx [sI a, sI (k : Nat), sI (mulN 1 a k), z] := sForD (iN1_ok (r := .sh (.int (k : Nat))) (E1 := [sI a, sI (k : Nat), sI 1, .un]) rfl (rg1_n k (by omega))) q
  show m_power [sI a, sI (k : Nat), .un, .un] = _
  unfold m_power
  exact (seq_nx (E1 := [sI a, sI (k : Nat), sI 1, .un]) (sAsgD (d := .int 1) rfl rfl)).trans ((seq_nx h).trans (sRet_ok rfl))
def sgn (a : Int) : Int := (if 0 < a then 1 else 0) - (if a < 0 then 1 else 0)
theorem cGt_b (i j : Int) {k : Bool} (h : decide (j < i) = k) : cGt (.int i) (.int j) = some k := by rw [cGt_i, h]
theorem cLt_b (i j : Int) {k : Bool} (h : decide (i < j) = k) : cLt (.int i) (.int j) = some k := by rw [cLt_i, h]
theorem sign_ok (a : Int) : f_sign_of [.int a] = .ok (.sh (.int (sgn a))) := by
  refine mFn_rt (E := [sI a]) ?_
  show m_sign_of [sI a] = _
  unfold m_sign_of
  by_cases h1 : 0 < a
  · have : sgn a = 1 := by unfold sgn; rw [if_pos h1, if_neg (by omega)]; rfl
    rw [this]
    exact sRet_ok (eIf_t (t2_ok (ra := .sh (.int a)) (rb := .sh (.int 0)) (E1 := [sI a]) (E2 := [sI a]) rfl rfl (cGt_b a 0 (decide_eq_true h1))) rfl)
  · by_cases h2 : a < 0
    · have : sgn a = -1 := by unfold sgn; rw [if_neg h1, if_pos h2]; rfl
      rw [this]
      exact sRet_ok (eIf_f (t2_ok (ra := .sh (.int a)) (rb := .sh (.int 0)) (E1 := [sI a]) (E2 := [sI a]) rfl rfl (cGt_b a 0 (decide_eq_false h1))) (eIf_t (t2_ok (ra := .sh (.int a)) (rb := .sh (.int 0)) (E1 := [sI a]) (E2 := [sI a]) rfl rfl (cLt_b a 0 (decide_eq_true h2))) rfl))
    · have : sgn a = 0 := by unfold sgn; rw [if_neg h1, if_neg h2]; rfl
      rw [this]
      exact sRet_ok (eIf_f (t2_ok (ra := .sh (.int a)) (rb := .sh (.int 0)) (E1 := [sI a]) (E2 := [sI a]) rfl rfl (cGt_b a 0 (decide_eq_false h1))) (eIf_f (t2_ok (ra := .sh (.int a)) (rb := .sh (.int 0)) (E1 := [sI a]) (E2 := [sI a]) rfl rfl (cLt_b a 0 (decide_eq_false h2))) rfl))
theorem cmpGt (a : Int) : cmp cGt (.int a) (.int 0) = some (.sh (.bl (decide (0 < a)))) := rfl
theorem cmpLt (a : Int) : cmp cLt (.int a) (.int 0) = some (.sh (.bl (decide (a < 0)))) := rfl
theorem int1_b (b : Bool) : fInt1 [.bl b] = some (.sh (.int (if b then 1 else 0))) := rfl
theorem s18 (s t a b n : Int) (ha : a.natAbs ≤ 1000) (k : Nat) (hk : k < 9) : ml_18 (z0 :: (sT s t) :: (sI a) :: (sI b) :: (sI n) :: z5 :: z6 :: z7 :: z8 :: z9 :: z10 :: (sI (mulN 1 a k)) :: (sI (k : Nat)) :: z13 :: (sI (fac k)) :: Sl.un :: Sl.un :: Sl.un :: Sl.un :: Sl.un :: Sl.un :: Sl.un :: Sl.un :: Sl.un :: Sl.un :: Sl.un :: Sl.un :: Sl.un :: Sl.un :: Sl.un :: Sl.un :: Sl.un :: Sl.un :: []) = .ok .nx (z0 :: (sT s t) :: (sI a) :: (sI b) :: (sI n) :: z5 :: z6 :: z7 :: z8 :: z9 :: z10 :: (sI (mulN 1 a k)) :: (sI (k : Nat)) :: z13 :: (sI (fac k)) :: Sl.un :: Sl.un :: Sl.un :: Sl.un :: Sl.un :: Sl.un :: Sl.un :: Sl.un :: Sl.un :: Sl.un :: Sl.un :: Sl.un :: Sl.un :: Sl.un :: Sl.un :: Sl.un :: Sl.un :: Sl.un :: []) := by
  have q1 := same_int' 10 (mulN 1 a k)
  have q2 := same_int' 10 (fac k)
  have q3 := same_int' 10 (sgn a)
  have e : e2 fSub (eN fInt1 (aCons (e2 (cmp cGt) (eV 2) (eC (.int 0))) (aNil))) (eN fInt1 (aCons (e2 (cmp cLt) (eV 2) (eC (.int 0))) (aNil))) (z0 :: (sT s t) :: (sI a) :: (sI b) :: (sI n) :: z5 :: z6 :: z7 :: z8 :: z9 :: z10 :: (sI (mulN 1 a k)) :: (sI (k : Nat)) :: z13 :: (sI (fac k)) :: Sl.un :: Sl.un :: Sl.un :: Sl.un :: Sl.un :: Sl.un :: Sl.un :: Sl.un :: Sl.un :: Sl.un :: Sl.un :: Sl.un :: Sl.un :: Sl.un :: Sl.un :: Sl.un :: Sl.un :: Sl.un :: []) = .ok (.sh (.int (sgn a))) (z0 :: (sT s t) :: (sI a) :: (sI b) :: (sI n) :: z5 :: z6 :: z7 :: z8 :: z9 :: z10 :: (sI (mulN 1 a k)) :: (sI (k : Nat)) :: z13 :: (sI (fac k)) :: Sl.un :: Sl.un :: Sl.un :: Sl.un :: Sl.un :: Sl.un :: Sl.un :: Sl.un :: Sl.un :: Sl.un :: Sl.un :: Sl.un :: Sl.un :: Sl.un :: Sl.un :: Sl.un :: Sl.un :: Sl.un :: []) := by
    have := e2_ok (E := (z0 :: (sT s t) :: (sI a) :: (sI b) :: (sI n) :: z5 :: z6 :: z7 :: z8 :: z9 :: z10 :: (sI (mulN 1 a k)) :: (sI (k : Nat)) :: z13 :: (sI (fac k)) :: Sl.un :: Sl.un :: Sl.un :: Sl.un :: Sl.un :: Sl.un :: Sl.un :: Sl.un :: Sl.un :: Sl.un :: Sl.un :: Sl.un :: Sl.un :: Sl.un :: Sl.un :: Sl.un :: Sl.un :: Sl.un :: [])) (eN1_ok (e2_ok (ma := eV 2) (mb := eC (.int 0)) (E := (z0 :: (sT s t) :: (sI a) :: (sI b) :: (sI n) :: z5 :: z6 :: z7 :: z8 :: z9 :: z10 :: (sI (mulN 1 a k)) :: (sI (k : Nat)) :: z13 :: (sI (fac k)) :: Sl.un :: Sl.un :: Sl.un :: Sl.un :: Sl.un :: Sl.un :: Sl.un :: Sl.un :: Sl.un :: Sl.un :: Sl.un :: Sl.un :: Sl.un :: Sl.un :: Sl.un :: Sl.un :: Sl.un :: Sl.un :: [])) (ra := .sh (.int a)) (rb := .sh (.int 0)) rfl rfl (cmpGt a)) (int1_b _)) (eN1_ok (e2_ok (ma := eV 2) (mb := eC (.int 0)) (E := (z0 :: (sT s t) :: (sI a) :: (sI b) :: (sI n) :: z5 :: z6 :: z7 :: z8 :: z9 :: z10 :: (sI (mulN 1 a k)) :: (sI (k : Nat)) :: z13 :: (sI (fac k)) :: Sl.un :: Sl.un :: Sl.un :: Sl.un :: Sl.un :: Sl.un :: Sl.un :: Sl.un :: Sl.un :: Sl.un :: Sl.un :: Sl.un :: Sl.un :: Sl.un :: Sl.un :: Sl.un :: Sl.un :: Sl.un :: [])) (ra := .sh (.int a)) (rb := .sh (.int 0)) rfl rfl (cmpLt a)) (int1_b _)) (fSub_i _ _)
    rw [show sgn a = (if decide (0 < a) then 1 else 0) - (if decide (a < 0) then 1 else 0) by unfold sgn; simp]
    exact this
  exact sIfF (tOrF (tNotV_ok (eCall2_ok (eCall2_ok (ra := .sh (.int a)) (rb := .sh (.int (k : Nat))) rfl rfl (power_ok a k ha hk)) (rb := .sh (.int (mulN 1 a k))) rfl q1) rfl) (tOrF (tNotV_ok (eCall2_ok (eCall1_ok (ra := .sh (.int (k : Nat))) rfl (fac_ok k hk)) (rb := .sh (.int (fac k))) rfl q2) rfl) (tNotV_ok (eCall2_ok (eCall1_ok (ra := .sh (.int a)) rfl (sign_ok a)) e q3) rfl))) rfl
variable (z11 : Sl) (z12 : Sl)
theorem s19 (d12 : D) (s t a b n : Int) : ∃ (m k : Nat) (s' t' : Int), (m < 7 ∧ k < 7) ∧ ml_19 (z0 :: (sT s t) :: (sI a) :: (sI b) :: (sI n) :: z5 :: z6 :: z7 :: z8 :: z9 :: z10 :: z11 :: (Sl.sh d12) :: z13 :: z14 :: Sl.un :: Sl.un :: Sl.un :: Sl.un :: Sl.un :: Sl.un :: Sl.un :: Sl.un :: Sl.un :: Sl.un :: Sl.un :: Sl.un :: Sl.un :: Sl.un :: Sl.un :: Sl.un :: Sl.un :: Sl.un :: []) = .ok .nx (z0 :: (sT s' t') :: (sI a) :: (sI b) :: (sI n) :: z5 :: z6 :: z7 :: z8 :: z9 :: z10 :: z11 :: (Sl.sh d12) :: z13 :: z14 :: (sI (m : Nat)) :: (sI (k : Nat)) :: Sl.un :: Sl.un :: Sl.un :: Sl.un :: Sl.un :: Sl.un :: Sl.un :: Sl.un :: Sl.un :: Sl.un :: Sl.un :: Sl.un :: Sl.un :: Sl.un :: Sl.un :: Sl.un :: []) := by
  obtain ⟨v, s1, t1, hv, q⟩ := draw_ok (ma := eC (.int 7)) (E := (z0 :: (sT s t) :: (sI a) :: (sI b) :: (sI n) :: z5 :: z6 :: z7 :: z8 :: z9 :: z10 :: z11 :: (Sl.sh d12) :: z13 :: z14 :: Sl.un :: Sl.un :: Sl.un :: Sl.un :: Sl.un :: Sl.un :: Sl.un :: Sl.un :: Sl.un :: Sl.un :: Sl.un :: Sl.un :: Sl.un :: Sl.un :: Sl.un :: Sl.un :: Sl.un :: Sl.un :: [])) (s := s) (t := t) rfl rfl rfl (by decide) (by decide)
  obtain ⟨u, s2, t2, hu, r⟩ := draw_ok (ma := eC (.int 7)) (E := (z0 :: (sT s1 t1) :: (sI a) :: (sI b) :: (sI n) :: z5 :: z6 :: z7 :: z8 :: z9 :: z10 :: z11 :: (Sl.sh d12) :: z13 :: z14 :: Sl.un :: Sl.un :: Sl.un :: Sl.un :: Sl.un :: Sl.un :: Sl.un :: Sl.un :: Sl.un :: Sl.un :: Sl.un :: Sl.un :: Sl.un :: Sl.un :: Sl.un :: Sl.un :: Sl.un :: Sl.un :: [])) (s := s1) (t := t1) rfl rfl rfl (by decide) (by decide)
  refine ⟨v.toNat, u.toNat, s2, t2, by omega, ?_⟩
  rw [show sI ((v.toNat : Nat) : Int) = sI v by rw [show ((v.toNat : Nat) : Int) = v by omega], show sI ((u.toNat : Nat) : Int) = sI u by rw [show ((u.toNat : Nat) : Int) = u by omega]]
  exact sPar_ok q r
variable (z15 z16 z17 : Sl)
theorem s22 (d12 : D) (s t a b n : Int) : ∃ (items : List Int) (s' t' : Int) (z13' : Sl), items.length ≤ 4 ∧ ml_22 (z0 :: (sT s t) :: (sI a) :: (sI b) :: (sI n) :: z5 :: z6 :: z7 :: z8 :: z9 :: z10 :: z11 :: (Sl.sh d12) :: z13 :: z14 :: z15 :: z16 :: z17 :: Sl.un :: Sl.un :: Sl.un :: Sl.un :: Sl.un :: Sl.un :: Sl.un :: Sl.un :: Sl.un :: Sl.un :: Sl.un :: Sl.un :: Sl.un :: Sl.un :: Sl.un :: []) = .ok .nx (z0 :: (sT s' t') :: (sI a) :: (sI b) :: (sI n) :: z5 :: z6 :: z7 :: z8 :: z9 :: z10 :: z11 :: (Sl.sh d12) :: z13' :: z14 :: z15 :: z16 :: z17 :: (Sl.sh (.tup (items.map .int))) :: Sl.un :: Sl.un :: Sl.un :: Sl.un :: Sl.un :: Sl.un :: Sl.un :: Sl.un :: Sl.un :: Sl.un :: Sl.un :: Sl.un :: Sl.un :: Sl.un :: []) := by
  obtain ⟨v, s1, t1, hv, q⟩ := draw_ok (ma := eC (.int 5)) (E := (z0 :: (sT s t) :: (sI a) :: (sI b) :: (sI n) :: z5 :: z6 :: z7 :: z8 :: z9 :: z10 :: z11 :: (Sl.sh d12) :: z13 :: z14 :: z15 :: z16 :: z17 :: Sl.un :: Sl.un :: Sl.un :: Sl.un :: Sl.un :: Sl.un :: Sl.un :: Sl.un :: Sl.un :: Sl.un :: Sl.un :: Sl.un :: Sl.un :: Sl.un :: Sl.un :: [])) (s := s) (t := t) rfl rfl rfl (by decide) (by decide)
  have hsz := sizeBig
  obtain ⟨ws, s2, t2, h1, h2, h3⟩ := draws_lc (g := gNm 13) (mt := tTrue) (me := eCallB 2 1 f__law_take (aCons (eC (.int 9)) (aNil))) (vs := [13]) (fun s t => (z0 :: (sT s t) :: (sI a) :: (sI b) :: (sI n) :: z5 :: z6 :: z7 :: z8 :: z9 :: z10 :: z11 :: (Sl.sh d12) :: (Sl.un) :: z14 :: z15 :: z16 :: z17 :: Sl.un :: Sl.un :: Sl.un :: Sl.un :: Sl.un :: Sl.un :: Sl.un :: Sl.un :: Sl.un :: Sl.un :: Sl.un :: Sl.un :: Sl.un :: Sl.un :: Sl.un :: [])) (fun k : Nat => D.int (0 + (k : Int))) (fun c => True) (fun k s t => by
    obtain ⟨u, s3, t3, hu, r⟩ := draw_ok (ma := eC (.int 9)) (E := (z0 :: (sT s t) :: (sI a) :: (sI b) :: (sI n) :: z5 :: z6 :: z7 :: z8 :: z9 :: z10 :: z11 :: (Sl.sh d12) :: (sI (0 + (k : Int))) :: z14 :: z15 :: z16 :: z17 :: Sl.un :: Sl.un :: Sl.un :: Sl.un :: Sl.un :: Sl.un :: Sl.un :: Sl.un :: Sl.un :: Sl.un :: Sl.un :: Sl.un :: Sl.un :: Sl.un :: Sl.un :: [])) (s := s) (t := t) rfl rfl rfl (by decide) (by decide)
    exact ⟨_, _, _, u, s3, t3, rfl, rfl, r, rfl, trivial, rfl⟩) (List.range v.toNat) [] s1 t1 (by rw [List.length_nil, List.length_range]; omega)
  have hr : rg1 [.int v] = some (rgD 0 v.toNat) := by
    have := rg1_n v.toNat (by omega)
    rw [show ((v.toNat : Nat) : Int) = v by omega] at this
    exact this
  refine ⟨ws, s2, t2, keepSh (some z13), by rw [h2, List.length_range]; omega, ?_⟩
  exact sAsgD (eN1_ok (eLc_ok (iN1_ok q hr) h1) (R := .sh (.tup (ws.map .int))) rfl) rfl
theorem perms_in : ∀ n0, n0 ≤ 4 → (∀ p ∈ perms n0, ∀ i ∈ p, 0 ≤ i ∧ i < (n0 : Int)) ∧ (perms n0).length ≤ 1000 ∧ ∀ p ∈ perms n0, p.length ≤ 1000
  | 0, _ => by decide
  | 1, _ => by decide
  | 2, _ => by decide
  | 3, _ => by decide
  | 4, _ => by decide
  | n + 5, h => absurd h (by omega)

theorem s24 (d12 : D) (s t a b n : Int) (xs : List D) (n0 : Nat) (hn : n0 ≤ 4) (hl : xs.length = n0) (hx : ∀ x ∈ xs, ∃ i, x = .int i) (oo : f_orders_of [.tup xs] = .ok (.fr (.lst ((perms n0).map (pick xs))))) : ml_24 (z0 :: (sT s t) :: (sI a) :: (sI b) :: (sI n) :: z5 :: z6 :: z7 :: z8 :: z9 :: z10 :: z11 :: (Sl.sh d12) :: z13 :: z14 :: z15 :: z16 :: z17 :: (Sl.sh (.tup xs)) :: (Sl.sh (.lst ((perms n0).map tj))) :: Sl.un :: Sl.un :: Sl.un :: Sl.un :: Sl.un :: Sl.un :: Sl.un :: Sl.un :: Sl.un :: Sl.un :: Sl.un :: Sl.un :: Sl.un :: []) = .ok .nx (z0 :: (sT s t) :: (sI a) :: (sI b) :: (sI n) :: z5 :: z6 :: z7 :: z8 :: z9 :: z10 :: z11 :: (Sl.sh d12) :: z13 :: z14 :: z15 :: z16 :: z17 :: (Sl.sh (.tup xs)) :: (Sl.sh (.lst ((perms n0).map tj))) :: Sl.un :: Sl.un :: Sl.un :: Sl.un :: Sl.un :: Sl.un :: Sl.un :: Sl.un :: Sl.un :: Sl.un :: Sl.un :: Sl.un :: Sl.un :: []) := by
  have hsz := sizeBig
  obtain ⟨hp, hpl, hpp⟩ := perms_in n0 hn
  have hg : ∀ p ∈ perms n0, ∀ i ∈ p, xs[i.toNat]? = some (xs.getD i.toNat .non) := fun p h i hi => by
    have := hp p h i hi
    rw [List.getD_eq_getElem?_getD, List.getElem?_eq_getElem (by omega)]
    rfl
  have q : f__law_same 11 [.tup ((perms n0).map (pick xs)), .lst ((perms n0).map (pick xs))] = .ok (.sh (.bl true)) := by
    refine same_lst 10 _ _ (by rw [List.length_map]; omega) (same_self 9 _ (by rw [List.length_map]; omega) fun x hx2 => ?_)
    obtain ⟨p, h, rfl⟩ := List.mem_map.mp hx2
    refine same_self 8 _ (by rw [List.length_map]; have := hpp p h; omega) fun y hy => ?_
    obtain ⟨i, hi, rfl⟩ := List.mem_map.mp hy
    obtain ⟨j, e⟩ := hx _ (List.mem_of_getElem? (hg p h i hi))
    rw [e]
    exact same_int' 7 j
  have hL := lcL_run (g := gNm 20) (mt := tTrue) (me := eN fTupOf (aCons (eLc (iV itS (eV 20)) (gNm 32) (tTrue) (e2 fIx (eV 18) (eV 32)) [32]) (aNil))) (vs := [20]) (E := (z0 :: (sT s t) :: (sI a) :: (sI b) :: (sI n) :: z5 :: z6 :: z7 :: z8 :: z9 :: z10 :: z11 :: (Sl.sh d12) :: z13 :: z14 :: z15 :: z16 :: z17 :: (Sl.sh (.tup xs)) :: (Sl.sh (.lst ((perms n0).map tj))) :: Sl.un :: Sl.un :: Sl.un :: Sl.un :: Sl.un :: Sl.un :: Sl.un :: Sl.un :: Sl.un :: Sl.un :: Sl.un :: Sl.un :: Sl.un :: [])) tj (fun _ => true) (pick xs) (perms n0) [] (fun p h => ?_) (by rw [List.length_nil]; omega)
  · rw [List.nil_append, List.filter_eq_self.mpr (fun _ _ => rfl)] at hL
    exact sIfF (tOrF (tNotV_ok (eN2_ok (eCall1_ok (ra := .sh (.tup xs)) rfl oo) (rb := .sh (.ty .list)) rfl (R := .sh (.bl true)) rfl) rfl) (tNotV_ok (eCall2_ok (eN1_ok (eCall1_ok (ra := .sh (.tup xs)) rfl oo) (R := .sh (.tup ((perms n0).map (pick xs)))) rfl) (eLc_ok (E1 := (z0 :: (sT s t) :: (sI a) :: (sI b) :: (sI n) :: z5 :: z6 :: z7 :: z8 :: z9 :: z10 :: z11 :: (Sl.sh d12) :: z13 :: z14 :: z15 :: z16 :: z17 :: (Sl.sh (.tup xs)) :: (Sl.sh (.lst ((perms n0).map tj))) :: Sl.un :: Sl.un :: Sl.un :: Sl.un :: Sl.un :: Sl.un :: Sl.un :: Sl.un :: Sl.un :: Sl.un :: Sl.un :: Sl.un :: Sl.un :: [])) (ds := (perms n0).map tj) rfl hL) q) rfl)) rfl
  · have hI := lcL_run (g := gNm 32) (mt := tTrue) (me := e2 fIx (eV 18) (eV 32)) (vs := [32]) (E := (z0 :: (sT s t) :: (sI a) :: (sI b) :: (sI n) :: z5 :: z6 :: z7 :: z8 :: z9 :: z10 :: z11 :: (Sl.sh d12) :: z13 :: z14 :: z15 :: z16 :: z17 :: (Sl.sh (.tup xs)) :: (Sl.sh (.lst ((perms n0).map tj))) :: (Sl.sh (tj p)) :: Sl.un :: Sl.un :: Sl.un :: Sl.un :: Sl.un :: Sl.un :: Sl.un :: Sl.un :: Sl.un :: Sl.un :: Sl.un :: Sl.un :: [])) D.int (fun _ => true) (fun i => xs.getD i.toNat .non) p [] (fun i hi => ?_) (by rw [List.length_nil]; have := hpp p h; omega)
    · rw [List.nil_append, List.filter_eq_self.mpr (fun _ _ => rfl)] at hI
      exact ⟨_, rfl, .inl ⟨rfl, _, .sh (pick xs p), (z0 :: (sT s t) :: (sI a) :: (sI b) :: (sI n) :: z5 :: z6 :: z7 :: z8 :: z9 :: z10 :: z11 :: (Sl.sh d12) :: z13 :: z14 :: z15 :: z16 :: z17 :: (Sl.sh (.tup xs)) :: (Sl.sh (.lst ((perms n0).map tj))) :: (Sl.sh (tj p)) :: Sl.un :: Sl.un :: Sl.un :: Sl.un :: Sl.un :: Sl.un :: Sl.un :: Sl.un :: Sl.un :: Sl.un :: Sl.un :: Sl.un :: []), rfl, eN1_ok (eLc_ok (E1 := (z0 :: (sT s t) :: (sI a) :: (sI b) :: (sI n) :: z5 :: z6 :: z7 :: z8 :: z9 :: z10 :: z11 :: (Sl.sh d12) :: z13 :: z14 :: z15 :: z16 :: z17 :: (Sl.sh (.tup xs)) :: (Sl.sh (.lst ((perms n0).map tj))) :: (Sl.sh (tj p)) :: Sl.un :: Sl.un :: Sl.un :: Sl.un :: Sl.un :: Sl.un :: Sl.un :: Sl.un :: Sl.un :: Sl.un :: Sl.un :: Sl.un :: [])) (ds := p.map D.int) rfl hI) rfl, rfl, rfl⟩⟩
    · have := hp p h i hi
      have hf := fIx_tup xs i.toNat _ (hg p h i hi)
      rw [show ((i.toNat : Nat) : Int) = i by omega] at hf
      exact ⟨_, rfl, .inl ⟨rfl, _, .sh (xs.getD i.toNat .non), _, rfl, e2_ok (ra := .sh (.tup xs)) (rb := .sh (.int i)) rfl rfl hf, rfl, rfl⟩⟩
theorem s24o (d12 : D) (s t a b n : Int) (xs : List D) (n0 : Nat) (hn : n0 ≤ 4) (hl : xs.length = n0) (hx : ∀ x ∈ xs, ∃ i, x = .int i) (oo : f_orders_of [.tup xs] = .ok (.fr (.lst ((perms n0).map (pick xs))))) : ml_24 (z0 :: (sT s t) :: (sI a) :: (sI b) :: (sI n) :: z5 :: z6 :: z7 :: z8 :: z9 :: z10 :: z11 :: (Sl.sh d12) :: z13 :: z14 :: z15 :: z16 :: z17 :: (Sl.sh (.tup xs)) :: (Sl.ow (.lst ((perms n0).map tj))) :: Sl.un :: Sl.un :: Sl.un :: Sl.un :: Sl.un :: Sl.un :: Sl.un :: Sl.un :: Sl.un :: Sl.un :: Sl.un :: Sl.un :: Sl.un :: []) = .ok .nx (z0 :: (sT s t) :: (sI a) :: (sI b) :: (sI n) :: z5 :: z6 :: z7 :: z8 :: z9 :: z10 :: z11 :: (Sl.sh d12) :: z13 :: z14 :: z15 :: z16 :: z17 :: (Sl.sh (.tup xs)) :: (Sl.sh (.lst ((perms n0).map tj))) :: Sl.un :: Sl.un :: Sl.un :: Sl.un :: Sl.un :: Sl.un :: Sl.un :: Sl.un :: Sl.un :: Sl.un :: Sl.un :: Sl.un :: Sl.un :: []) := by
  have hsz := sizeBig
  obtain ⟨hp, hpl, hpp⟩ := perms_in n0 hn
  have hg : ∀ p ∈ perms n0, ∀ i ∈ p, xs[i.toNat]? = some (xs.getD i.toNat .non) := fun p h i hi => by
    have := hp p h i hi
    rw [List.getD_eq_getElem?_getD, List.getElem?_eq_getElem (by omega)]
    rfl
  have q : f__law_same 11 [.tup ((perms n0).map (pick xs)), .lst ((perms n0).map (pick xs))] = .ok (.sh (.bl true)) := by
    refine same_lst 10 _ _ (by rw [List.length_map]; omega) (same_self 9 _ (by rw [List.length_map]; omega) fun x hx2 => ?_)
    obtain ⟨p, h, rfl⟩ := List.mem_map.mp hx2
    refine same_self 8 _ (by rw [List.length_map]; have := hpp p h; omega) fun y hy => ?_
    obtain ⟨i, hi, rfl⟩ := List.mem_map.mp hy
    obtain ⟨j, e⟩ := hx _ (List.mem_of_getElem? (hg p h i hi))
    rw [e]
    exact same_int' 7 j
  have hL := lcL_run (g := gNm 20) (mt := tTrue) (me := eN fTupOf (aCons (eLc (iV itS (eV 20)) (gNm 32) (tTrue) (e2 fIx (eV 18) (eV 32)) [32]) (aNil))) (vs := [20]) (E := (z0 :: (sT s t) :: (sI a) :: (sI b) :: (sI n) :: z5 :: z6 :: z7 :: z8 :: z9 :: z10 :: z11 :: (Sl.sh d12) :: z13 :: z14 :: z15 :: z16 :: z17 :: (Sl.sh (.tup xs)) :: (Sl.sh (.lst ((perms n0).map tj))) :: Sl.un :: Sl.un :: Sl.un :: Sl.un :: Sl.un :: Sl.un :: Sl.un :: Sl.un :: Sl.un :: Sl.un :: Sl.un :: Sl.un :: Sl.un :: [])) tj (fun _ => true) (pick xs) (perms n0) [] (fun p h => ?_) (by rw [List.length_nil]; omega)
  · rw [List.nil_append, List.filter_eq_self.mpr (fun _ _ => rfl)] at hL
    exact sIfF (tOrF (tNotV_ok (eN2_ok (eCall1_ok (ra := .sh (.tup xs)) rfl oo) (rb := .sh (.ty .list)) rfl (R := .sh (.bl true)) rfl) rfl) (tNotV_ok (eCall2_ok (eN1_ok (eCall1_ok (ra := .sh (.tup xs)) rfl oo) (R := .sh (.tup ((perms n0).map (pick xs)))) rfl) (eLc_ok (E1 := (z0 :: (sT s t) :: (sI a) :: (sI b) :: (sI n) :: z5 :: z6 :: z7 :: z8 :: z9 :: z10 :: z11 :: (Sl.sh d12) :: z13 :: z14 :: z15 :: z16 :: z17 :: (Sl.sh (.tup xs)) :: (Sl.sh (.lst ((perms n0).map tj))) :: Sl.un :: Sl.un :: Sl.un :: Sl.un :: Sl.un :: Sl.un :: Sl.un :: Sl.un :: Sl.un :: Sl.un :: Sl.un :: Sl.un :: Sl.un :: [])) (ds := (perms n0).map tj) rfl hL) q) rfl)) rfl
  · have hI := lcL_run (g := gNm 32) (mt := tTrue) (me := e2 fIx (eV 18) (eV 32)) (vs := [32]) (E := (z0 :: (sT s t) :: (sI a) :: (sI b) :: (sI n) :: z5 :: z6 :: z7 :: z8 :: z9 :: z10 :: z11 :: (Sl.sh d12) :: z13 :: z14 :: z15 :: z16 :: z17 :: (Sl.sh (.tup xs)) :: (Sl.sh (.lst ((perms n0).map tj))) :: (Sl.sh (tj p)) :: Sl.un :: Sl.un :: Sl.un :: Sl.un :: Sl.un :: Sl.un :: Sl.un :: Sl.un :: Sl.un :: Sl.un :: Sl.un :: Sl.un :: [])) D.int (fun _ => true) (fun i => xs.getD i.toNat .non) p [] (fun i hi => ?_) (by rw [List.length_nil]; have := hpp p h; omega)
    · rw [List.nil_append, List.filter_eq_self.mpr (fun _ _ => rfl)] at hI
      exact ⟨_, rfl, .inl ⟨rfl, _, .sh (pick xs p), (z0 :: (sT s t) :: (sI a) :: (sI b) :: (sI n) :: z5 :: z6 :: z7 :: z8 :: z9 :: z10 :: z11 :: (Sl.sh d12) :: z13 :: z14 :: z15 :: z16 :: z17 :: (Sl.sh (.tup xs)) :: (Sl.sh (.lst ((perms n0).map tj))) :: (Sl.sh (tj p)) :: Sl.un :: Sl.un :: Sl.un :: Sl.un :: Sl.un :: Sl.un :: Sl.un :: Sl.un :: Sl.un :: Sl.un :: Sl.un :: Sl.un :: []), rfl, eN1_ok (eLc_ok (E1 := (z0 :: (sT s t) :: (sI a) :: (sI b) :: (sI n) :: z5 :: z6 :: z7 :: z8 :: z9 :: z10 :: z11 :: (Sl.sh d12) :: z13 :: z14 :: z15 :: z16 :: z17 :: (Sl.sh (.tup xs)) :: (Sl.sh (.lst ((perms n0).map tj))) :: (Sl.sh (tj p)) :: Sl.un :: Sl.un :: Sl.un :: Sl.un :: Sl.un :: Sl.un :: Sl.un :: Sl.un :: Sl.un :: Sl.un :: Sl.un :: Sl.un :: [])) (ds := p.map D.int) rfl hI) rfl, rfl, rfl⟩⟩
    · have := hp p h i hi
      have hf := fIx_tup xs i.toNat _ (hg p h i hi)
      rw [show ((i.toNat : Nat) : Int) = i by omega] at hf
      exact ⟨_, rfl, .inl ⟨rfl, _, .sh (xs.getD i.toNat .non), _, rfl, e2_ok (ra := .sh (.tup xs)) (rb := .sh (.int i)) rfl rfl hf, rfl, rfl⟩⟩
theorem s2345 (d12 : D) (s t a b n : Int) : ∀ items : List Int, items.length ≤ 4 → ∃ z19 z20 z21, (sSeq ml_23 (sSeq ml_24 ml_25)) (z0 :: (sT s t) :: (sI a) :: (sI b) :: (sI n) :: z5 :: z6 :: z7 :: z8 :: z9 :: z10 :: z11 :: (Sl.sh d12) :: z13 :: z14 :: z15 :: z16 :: z17 :: (Sl.sh (.tup (items.map .int))) :: Sl.un :: Sl.un :: Sl.un :: Sl.un :: Sl.un :: Sl.un :: Sl.un :: Sl.un :: Sl.un :: Sl.un :: Sl.un :: Sl.un :: Sl.un :: Sl.un :: []) = .ok .nx (z0 :: (sT s t) :: (sI a) :: (sI b) :: (sI n) :: z5 :: z6 :: z7 :: z8 :: z9 :: z10 :: z11 :: (Sl.sh d12) :: z13 :: z14 :: z15 :: z16 :: z17 :: (Sl.sh (.tup (items.map .int))) :: z19 :: z20 :: z21 :: Sl.un :: Sl.un :: Sl.un :: Sl.un :: Sl.un :: Sl.un :: Sl.un :: Sl.un :: Sl.un :: Sl.un :: Sl.un :: [])
  | [], _ => by
    refine ⟨.sh (.lst ((perms 0).map tj)), .sh (tj []), .sh (.int 0), ?_⟩
    have hx : ∀ x ∈ ([] : List D), ∃ i, x = .int i := by
      intro x hx
      exact absurd hx (by simp)
    have h1 : ml_23 (z0 :: (sT s t) :: (sI a) :: (sI b) :: (sI n) :: z5 :: z6 :: z7 :: z8 :: z9 :: z10 :: z11 :: (Sl.sh d12) :: z13 :: z14 :: z15 :: z16 :: z17 :: (Sl.sh (.tup [])) :: Sl.un :: Sl.un :: Sl.un :: Sl.un :: Sl.un :: Sl.un :: Sl.un :: Sl.un :: Sl.un :: Sl.un :: Sl.un :: Sl.un :: Sl.un :: Sl.un :: []) = .ok .nx (z0 :: (sT s t) :: (sI a) :: (sI b) :: (sI n) :: z5 :: z6 :: z7 :: z8 :: z9 :: z10 :: z11 :: (Sl.sh d12) :: z13 :: z14 :: z15 :: z16 :: z17 :: (Sl.sh (.tup [])) :: (Sl.ow (.lst ((perms 0).map tj))) :: Sl.un :: Sl.un :: Sl.un :: Sl.un :: Sl.un :: Sl.un :: Sl.un :: Sl.un :: Sl.un :: Sl.un :: Sl.un :: Sl.un :: Sl.un :: []) := sAsgF (eCall1_ok (ra := .sh (.tup [])) (r := .fr (.lst ((perms 0).map tj))) rfl (lo_0)) rfl
    have h2 : ml_24 (z0 :: (sT s t) :: (sI a) :: (sI b) :: (sI n) :: z5 :: z6 :: z7 :: z8 :: z9 :: z10 :: z11 :: (Sl.sh d12) :: z13 :: z14 :: z15 :: z16 :: z17 :: (Sl.sh (.tup [])) :: (Sl.ow (.lst ((perms 0).map tj))) :: Sl.un :: Sl.un :: Sl.un :: Sl.un :: Sl.un :: Sl.un :: Sl.un :: Sl.un :: Sl.un :: Sl.un :: Sl.un :: Sl.un :: Sl.un :: []) = .ok .nx (z0 :: (sT s t) :: (sI a) :: (sI b) :: (sI n) :: z5 :: z6 :: z7 :: z8 :: z9 :: z10 :: z11 :: (Sl.sh d12) :: z13 :: z14 :: z15 :: z16 :: z17 :: (Sl.sh (.tup [])) :: (Sl.sh (.lst ((perms 0).map tj))) :: Sl.un :: Sl.un :: Sl.un :: Sl.un :: Sl.un :: Sl.un :: Sl.un :: Sl.un :: Sl.un :: Sl.un :: Sl.un :: Sl.un :: Sl.un :: []) := s24o z0 z5 z6 z7 z8 z9 z10 z13 z14 z11 z15 z16 z17 d12 s t a b n [] 0 (by decide) rfl hx (oo_0)
    exact (seq_nx h1).trans ((seq_nx h2).trans (t25_0 _ _ _ _ _ _ _ _ _ _ _ _ _ _ _ _ _ _ _ _))
  | [y0], _ => by
    refine ⟨.sh (.lst ((perms 1).map tj)), .sh (tj [0]), .sh (.int 0), ?_⟩
    have hx : ∀ x ∈ ([D.int y0] : List D), ∃ i, x = .int i := by
      intro x hx
      simp only [List.mem_cons, List.not_mem_nil, or_false] at hx
      rcases hx with rfl <;> exact ⟨_, rfl⟩
    have h1 : ml_23 (z0 :: (sT s t) :: (sI a) :: (sI b) :: (sI n) :: z5 :: z6 :: z7 :: z8 :: z9 :: z10 :: z11 :: (Sl.sh d12) :: z13 :: z14 :: z15 :: z16 :: z17 :: (Sl.sh (.tup [D.int y0])) :: Sl.un :: Sl.un :: Sl.un :: Sl.un :: Sl.un :: Sl.un :: Sl.un :: Sl.un :: Sl.un :: Sl.un :: Sl.un :: Sl.un :: Sl.un :: Sl.un :: []) = .ok .nx (z0 :: (sT s t) :: (sI a) :: (sI b) :: (sI n) :: z5 :: z6 :: z7 :: z8 :: z9 :: z10 :: z11 :: (Sl.sh d12) :: z13 :: z14 :: z15 :: z16 :: z17 :: (Sl.sh (.tup [D.int y0])) :: (Sl.sh (.lst ((perms 1).map tj))) :: Sl.un :: Sl.un :: Sl.un :: Sl.un :: Sl.un :: Sl.un :: Sl.un :: Sl.un :: Sl.un :: Sl.un :: Sl.un :: Sl.un :: Sl.un :: []) := sAsgD (eCall1_ok (ra := .sh (.tup [D.int y0])) (r := .sh (.lst ((perms 1).map tj))) rfl (lo_1 (.int y0))) rfl
    have h2 : ml_24 (z0 :: (sT s t) :: (sI a) :: (sI b) :: (sI n) :: z5 :: z6 :: z7 :: z8 :: z9 :: z10 :: z11 :: (Sl.sh d12) :: z13 :: z14 :: z15 :: z16 :: z17 :: (Sl.sh (.tup [D.int y0])) :: (Sl.sh (.lst ((perms 1).map tj))) :: Sl.un :: Sl.un :: Sl.un :: Sl.un :: Sl.un :: Sl.un :: Sl.un :: Sl.un :: Sl.un :: Sl.un :: Sl.un :: Sl.un :: Sl.un :: []) = .ok .nx (z0 :: (sT s t) :: (sI a) :: (sI b) :: (sI n) :: z5 :: z6 :: z7 :: z8 :: z9 :: z10 :: z11 :: (Sl.sh d12) :: z13 :: z14 :: z15 :: z16 :: z17 :: (Sl.sh (.tup [D.int y0])) :: (Sl.sh (.lst ((perms 1).map tj))) :: Sl.un :: Sl.un :: Sl.un :: Sl.un :: Sl.un :: Sl.un :: Sl.un :: Sl.un :: Sl.un :: Sl.un :: Sl.un :: Sl.un :: Sl.un :: []) := s24 z0 z5 z6 z7 z8 z9 z10 z13 z14 z11 z15 z16 z17 d12 s t a b n [D.int y0] 1 (by decide) rfl hx (oo_1 (.int y0))
    exact (seq_nx h1).trans ((seq_nx h2).trans (t25_1 _ _ _ _ _ _ _ _ _ _ _ _ _ _ _ _ _ _ _ _))
  | [y0, y1], _ => by
    refine ⟨.sh (.lst ((perms 2).map tj)), .sh (tj [1, 0]), .sh (.int 1), ?_⟩
    have hx : ∀ x ∈ ([D.int y0, D.int y1] : List D), ∃ i, x = .int i := by
      intro x hx
      simp only [List.mem_cons, List.not_mem_nil, or_false] at hx
      rcases hx with rfl | rfl <;> exact ⟨_, rfl⟩
    have h1 : ml_23 (z0 :: (sT s t) :: (sI a) :: (sI b) :: (sI n) :: z5 :: z6 :: z7 :: z8 :: z9 :: z10 :: z11 :: (Sl.sh d12) :: z13 :: z14 :: z15 :: z16 :: z17 :: (Sl.sh (.tup [D.int y0, D.int y1])) :: Sl.un :: Sl.un :: Sl.un :: Sl.un :: Sl.un :: Sl.un :: Sl.un :: Sl.un :: Sl.un :: Sl.un :: Sl.un :: Sl.un :: Sl.un :: Sl.un :: []) = .ok .nx (z0 :: (sT s t) :: (sI a) :: (sI b) :: (sI n) :: z5 :: z6 :: z7 :: z8 :: z9 :: z10 :: z11 :: (Sl.sh d12) :: z13 :: z14 :: z15 :: z16 :: z17 :: (Sl.sh (.tup [D.int y0, D.int y1])) :: (Sl.sh (.lst ((perms 2).map tj))) :: Sl.un :: Sl.un :: Sl.un :: Sl.un :: Sl.un :: Sl.un :: Sl.un :: Sl.un :: Sl.un :: Sl.un :: Sl.un :: Sl.un :: Sl.un :: []) := sAsgD (eCall1_ok (ra := .sh (.tup [D.int y0, D.int y1])) (r := .sh (.lst ((perms 2).map tj))) rfl (lo_2 (.int y0) (.int y1))) rfl
    have h2 : ml_24 (z0 :: (sT s t) :: (sI a) :: (sI b) :: (sI n) :: z5 :: z6 :: z7 :: z8 :: z9 :: z10 :: z11 :: (Sl.sh d12) :: z13 :: z14 :: z15 :: z16 :: z17 :: (Sl.sh (.tup [D.int y0, D.int y1])) :: (Sl.sh (.lst ((perms 2).map tj))) :: Sl.un :: Sl.un :: Sl.un :: Sl.un :: Sl.un :: Sl.un :: Sl.un :: Sl.un :: Sl.un :: Sl.un :: Sl.un :: Sl.un :: Sl.un :: []) = .ok .nx (z0 :: (sT s t) :: (sI a) :: (sI b) :: (sI n) :: z5 :: z6 :: z7 :: z8 :: z9 :: z10 :: z11 :: (Sl.sh d12) :: z13 :: z14 :: z15 :: z16 :: z17 :: (Sl.sh (.tup [D.int y0, D.int y1])) :: (Sl.sh (.lst ((perms 2).map tj))) :: Sl.un :: Sl.un :: Sl.un :: Sl.un :: Sl.un :: Sl.un :: Sl.un :: Sl.un :: Sl.un :: Sl.un :: Sl.un :: Sl.un :: Sl.un :: []) := s24 z0 z5 z6 z7 z8 z9 z10 z13 z14 z11 z15 z16 z17 d12 s t a b n [D.int y0, D.int y1] 2 (by decide) rfl hx (oo_2 (.int y0) (.int y1))
    exact (seq_nx h1).trans ((seq_nx h2).trans (t25_2 _ _ _ _ _ _ _ _ _ _ _ _ _ _ _ _ _ _ _ _))
  | [y0, y1, y2], _ => by
    refine ⟨.sh (.lst ((perms 3).map tj)), .sh (tj [2, 1, 0]), .sh (.int 3), ?_⟩
    have hx : ∀ x ∈ ([D.int y0, D.int y1, D.int y2] : List D), ∃ i, x = .int i := by
      intro x hx
      simp only [List.mem_cons, List.not_mem_nil, or_false] at hx
      rcases hx with rfl | rfl | rfl <;> exact ⟨_, rfl⟩
    have h1 : ml_23 (z0 :: (sT s t) :: (sI a) :: (sI b) :: (sI n) :: z5 :: z6 :: z7 :: z8 :: z9 :: z10 :: z11 :: (Sl.sh d12) :: z13 :: z14 :: z15 :: z16 :: z17 :: (Sl.sh (.tup [D.int y0, D.int y1, D.int y2])) :: Sl.un :: Sl.un :: Sl.un :: Sl.un :: Sl.un :: Sl.un :: Sl.un :: Sl.un :: Sl.un :: Sl.un :: Sl.un :: Sl.un :: Sl.un :: Sl.un :: []) = .ok .nx (z0 :: (sT s t) :: (sI a) :: (sI b) :: (sI n) :: z5 :: z6 :: z7 :: z8 :: z9 :: z10 :: z11 :: (Sl.sh d12) :: z13 :: z14 :: z15 :: z16 :: z17 :: (Sl.sh (.tup [D.int y0, D.int y1, D.int y2])) :: (Sl.sh (.lst ((perms 3).map tj))) :: Sl.un :: Sl.un :: Sl.un :: Sl.un :: Sl.un :: Sl.un :: Sl.un :: Sl.un :: Sl.un :: Sl.un :: Sl.un :: Sl.un :: Sl.un :: []) := sAsgD (eCall1_ok (ra := .sh (.tup [D.int y0, D.int y1, D.int y2])) (r := .sh (.lst ((perms 3).map tj))) rfl (lo_3 (.int y0) (.int y1) (.int y2))) rfl
    have h2 : ml_24 (z0 :: (sT s t) :: (sI a) :: (sI b) :: (sI n) :: z5 :: z6 :: z7 :: z8 :: z9 :: z10 :: z11 :: (Sl.sh d12) :: z13 :: z14 :: z15 :: z16 :: z17 :: (Sl.sh (.tup [D.int y0, D.int y1, D.int y2])) :: (Sl.sh (.lst ((perms 3).map tj))) :: Sl.un :: Sl.un :: Sl.un :: Sl.un :: Sl.un :: Sl.un :: Sl.un :: Sl.un :: Sl.un :: Sl.un :: Sl.un :: Sl.un :: Sl.un :: []) = .ok .nx (z0 :: (sT s t) :: (sI a) :: (sI b) :: (sI n) :: z5 :: z6 :: z7 :: z8 :: z9 :: z10 :: z11 :: (Sl.sh d12) :: z13 :: z14 :: z15 :: z16 :: z17 :: (Sl.sh (.tup [D.int y0, D.int y1, D.int y2])) :: (Sl.sh (.lst ((perms 3).map tj))) :: Sl.un :: Sl.un :: Sl.un :: Sl.un :: Sl.un :: Sl.un :: Sl.un :: Sl.un :: Sl.un :: Sl.un :: Sl.un :: Sl.un :: Sl.un :: []) := s24 z0 z5 z6 z7 z8 z9 z10 z13 z14 z11 z15 z16 z17 d12 s t a b n [D.int y0, D.int y1, D.int y2] 3 (by decide) rfl hx (oo_3 (.int y0) (.int y1) (.int y2))
    exact (seq_nx h1).trans ((seq_nx h2).trans (t25_3 _ _ _ _ _ _ _ _ _ _ _ _ _ _ _ _ _ _ _ _))
  | [y0, y1, y2, y3], _ => by
    refine ⟨.sh (.lst ((perms 4).map tj)), .sh (tj [3, 2, 1, 0]), .sh (.int 6), ?_⟩
    have hx : ∀ x ∈ ([D.int y0, D.int y1, D.int y2, D.int y3] : List D), ∃ i, x = .int i := by
      intro x hx
      simp only [List.mem_cons, List.not_mem_nil, or_false] at hx
      rcases hx with rfl | rfl | rfl | rfl <;> exact ⟨_, rfl⟩
    have h1 : ml_23 (z0 :: (sT s t) :: (sI a) :: (sI b) :: (sI n) :: z5 :: z6 :: z7 :: z8 :: z9 :: z10 :: z11 :: (Sl.sh d12) :: z13 :: z14 :: z15 :: z16 :: z17 :: (Sl.sh (.tup [D.int y0, D.int y1, D.int y2, D.int y3])) :: Sl.un :: Sl.un :: Sl.un :: Sl.un :: Sl.un :: Sl.un :: Sl.un :: Sl.un :: Sl.un :: Sl.un :: Sl.un :: Sl.un :: Sl.un :: Sl.un :: []) = .ok .nx (z0 :: (sT s t) :: (sI a) :: (sI b) :: (sI n) :: z5 :: z6 :: z7 :: z8 :: z9 :: z10 :: z11 :: (Sl.sh d12) :: z13 :: z14 :: z15 :: z16 :: z17 :: (Sl.sh (.tup [D.int y0, D.int y1, D.int y2, D.int y3])) :: (Sl.sh (.lst ((perms 4).map tj))) :: Sl.un :: Sl.un :: Sl.un :: Sl.un :: Sl.un :: Sl.un :: Sl.un :: Sl.un :: Sl.un :: Sl.un :: Sl.un :: Sl.un :: Sl.un :: []) := sAsgD (eCall1_ok (ra := .sh (.tup [D.int y0, D.int y1, D.int y2, D.int y3])) (r := .sh (.lst ((perms 4).map tj))) rfl (lo_4 (.int y0) (.int y1) (.int y2) (.int y3))) rfl
    have h2 : ml_24 (z0 :: (sT s t) :: (sI a) :: (sI b) :: (sI n) :: z5 :: z6 :: z7 :: z8 :: z9 :: z10 :: z11 :: (Sl.sh d12) :: z13 :: z14 :: z15 :: z16 :: z17 :: (Sl.sh (.tup [D.int y0, D.int y1, D.int y2, D.int y3])) :: (Sl.sh (.lst ((perms 4).map tj))) :: Sl.un :: Sl.un :: Sl.un :: Sl.un :: Sl.un :: Sl.un :: Sl.un :: Sl.un :: Sl.un :: Sl.un :: Sl.un :: Sl.un :: Sl.un :: []) = .ok .nx (z0 :: (sT s t) :: (sI a) :: (sI b) :: (sI n) :: z5 :: z6 :: z7 :: z8 :: z9 :: z10 :: z11 :: (Sl.sh d12) :: z13 :: z14 :: z15 :: z16 :: z17 :: (Sl.sh (.tup [D.int y0, D.int y1, D.int y2, D.int y3])) :: (Sl.sh (.lst ((perms 4).map tj))) :: Sl.un :: Sl.un :: Sl.un :: Sl.un :: Sl.un :: Sl.un :: Sl.un :: Sl.un :: Sl.un :: Sl.un :: Sl.un :: Sl.un :: Sl.un :: []) := s24 z0 z5 z6 z7 z8 z9 z10 z13 z14 z11 z15 z16 z17 d12 s t a b n [D.int y0, D.int y1, D.int y2, D.int y3] 4 (by decide) rfl hx (oo_4 (.int y0) (.int y1) (.int y2) (.int y3))
    exact (seq_nx h1).trans ((seq_nx h2).trans (t25_4 _ _ _ _ _ _ _ _ _ _ _ _ _ _ _ _ _ _ _ _))
  | _ :: _ :: _ :: _ :: _ :: r, h => absurd h (by simp)
variable (z18 z19 z20 z21 : Sl)
theorem s26 (d12 : D) (s t a b n : Int) : ∃ (m : Nat) (s' t' : Int), m < 10 ∧ ml_26 (z0 :: (sT s t) :: (sI a) :: (sI b) :: (sI n) :: z5 :: z6 :: z7 :: z8 :: z9 :: z10 :: z11 :: (Sl.sh d12) :: z13 :: z14 :: z15 :: z16 :: z17 :: z18 :: z19 :: z20 :: z21 :: Sl.un :: Sl.un :: Sl.un :: Sl.un :: Sl.un :: Sl.un :: Sl.un :: Sl.un :: Sl.un :: Sl.un :: Sl.un :: []) = .ok .nx (z0 :: (sT s' t') :: (sI a) :: (sI b) :: (sI n) :: z5 :: z6 :: z7 :: z8 :: z9 :: z10 :: z11 :: (Sl.sh d12) :: z13 :: z14 :: (Sl.sh (.int (m : Nat))) :: z16 :: z17 :: z18 :: z19 :: z20 :: z21 :: Sl.un :: Sl.un :: Sl.un :: Sl.un :: Sl.un :: Sl.un :: Sl.un :: Sl.un :: Sl.un :: Sl.un :: Sl.un :: []) := by
  obtain ⟨v, s1, t1, hv, q⟩ := draw_ok (ma := eC (.int 10)) (E := (z0 :: (sT s t) :: (sI a) :: (sI b) :: (sI n) :: z5 :: z6 :: z7 :: z8 :: z9 :: z10 :: z11 :: (Sl.sh d12) :: z13 :: z14 :: z15 :: z16 :: z17 :: z18 :: z19 :: z20 :: z21 :: Sl.un :: Sl.un :: Sl.un :: Sl.un :: Sl.un :: Sl.un :: Sl.un :: Sl.un :: Sl.un :: Sl.un :: Sl.un :: [])) (s := s) (t := t) rfl rfl rfl (by decide) (by decide)
  refine ⟨v.toNat, s1, t1, by omega, ?_⟩
  rw [show ((v.toNat : Nat) : Int) = v by omega]
  exact sAsgD q rfl
theorem shp_len : ∀ m < 10, 0 < (shpL m).length ∧ (shpL m).length < 1000
  | 0, _ => by decide
  | 1, _ => by decide
  | 2, _ => by decide
  | 3, _ => by decide
  | 4, _ => by decide
  | 5, _ => by decide
  | 6, _ => by decide
  | 7, _ => by decide
  | 8, _ => by decide
  | 9, _ => by decide
  | n + 10, h => absurd h (by omega)
theorem at_shp (m : Nat) (v : Int) (h0 : 0 ≤ v) (h : v < ((shpL m).length : Nat)) : ∃ p ∈ shpL m, fIx (.lst ((shpL m).map ti)) (.int v) = some (.sh (ti p)) := by
  have hv : v.toNat < (shpL m).length := by omega
  refine ⟨(shpL m)[v.toNat], List.getElem_mem hv, ?_⟩
  have := fIx_lst ((shpL m).map ti) v.toNat (ti (shpL m)[v.toNat]) (by rw [List.getElem?_map, List.getElem?_eq_getElem hv]; rfl)
  rw [show ((v.toNat : Nat) : Int) = v by omega] at this
  exact this
theorem len_shp (m : Nat) : fLen [.lst ((shpL m).map ti)] = some (.sh (.int ((shpL m).length : Nat))) := by
  show some (RV.sh (.int (((shpL m).map ti).length : Nat))) = _
  rw [List.length_map]
theorem s29 (d12 : D) (s t a b n : Int) (m : Nat) (hm : m < 10) : ∃ (p q : List Int) (s' t' : Int), (p ∈ shpL m ∧ q ∈ shpL m) ∧ ml_29 (z0 :: (sT s t) :: (sI a) :: (sI b) :: (sI n) :: z5 :: z6 :: z7 :: z8 :: z9 :: z10 :: z11 :: (Sl.sh d12) :: z13 :: z14 :: (Sl.sh (.int (m : Nat))) :: z16 :: z17 :: z18 :: z19 :: z20 :: z21 :: (Sl.sh (.lst ((shpL m).map ti))) :: Sl.un :: Sl.un :: Sl.un :: Sl.un :: Sl.un :: Sl.un :: Sl.un :: Sl.un :: Sl.un :: Sl.un :: []) = .ok .nx (z0 :: (sT s' t') :: (sI a) :: (sI b) :: (sI n) :: z5 :: z6 :: z7 :: z8 :: z9 :: z10 :: z11 :: (Sl.sh d12) :: z13 :: z14 :: (Sl.sh (.int (m : Nat))) :: z16 :: z17 :: z18 :: z19 :: z20 :: z21 :: (Sl.sh (.lst ((shpL m).map ti))) :: (Sl.sh (ti p)) :: (Sl.sh (ti q)) :: Sl.un :: Sl.un :: Sl.un :: Sl.un :: Sl.un :: Sl.un :: Sl.un :: Sl.un :: []) := by
  obtain ⟨l1, l2⟩ := shp_len m hm
  obtain ⟨v, s1, t1, hv, q⟩ := draw_ok (ma := eN fLen (aCons (eV 22) (aNil))) (E := (z0 :: (sT s t) :: (sI a) :: (sI b) :: (sI n) :: z5 :: z6 :: z7 :: z8 :: z9 :: z10 :: z11 :: (Sl.sh d12) :: z13 :: z14 :: (Sl.sh (.int (m : Nat))) :: z16 :: z17 :: z18 :: z19 :: z20 :: z21 :: (Sl.sh (.lst ((shpL m).map ti))) :: Sl.un :: Sl.un :: Sl.un :: Sl.un :: Sl.un :: Sl.un :: Sl.un :: Sl.un :: Sl.un :: Sl.un :: [])) (s := s) (t := t) (m := ((shpL m).length : Nat)) (r := .sh (.int ((shpL m).length : Nat))) rfl (eN1_ok (r := .sh (.lst ((shpL m).map ti))) rfl (len_shp m)) rfl (by omega) (by omega)
  obtain ⟨u, s2, t2, hu, r⟩ := draw_ok (ma := eN fLen (aCons (eV 22) (aNil))) (E := (z0 :: (sT s1 t1) :: (sI a) :: (sI b) :: (sI n) :: z5 :: z6 :: z7 :: z8 :: z9 :: z10 :: z11 :: (Sl.sh d12) :: z13 :: z14 :: (Sl.sh (.int (m : Nat))) :: z16 :: z17 :: z18 :: z19 :: z20 :: z21 :: (Sl.sh (.lst ((shpL m).map ti))) :: Sl.un :: Sl.un :: Sl.un :: Sl.un :: Sl.un :: Sl.un :: Sl.un :: Sl.un :: Sl.un :: Sl.un :: [])) (s := s1) (t := t1) (m := ((shpL m).length : Nat)) (r := .sh (.int ((shpL m).length : Nat))) rfl (eN1_ok (r := .sh (.lst ((shpL m).map ti))) rfl (len_shp m)) rfl (by omega) (by omega)
  obtain ⟨p, hp, ep⟩ := at_shp m v hv.1 hv.2
  obtain ⟨p2, hp2, ep2⟩ := at_shp m u hu.1 hu.2
  refine ⟨p, p2, s2, t2, ⟨hp, hp2⟩, sAsgG_ok (eN2_ok (e2_ok (ra := .sh (.lst ((shpL m).map ti))) (rb := .sh (.int v)) rfl q ep) (e2_ok (ra := .sh (.lst ((shpL m).map ti))) (rb := .sh (.int u)) rfl r ep2) (fTup2 _ _)) rfl⟩
end
/-! ### the whole -/
def Fin (m : M Fl) (E : Ev) : Prop := ∃ r E', m E = .ok (.rt r) E' ∧ r.d = .bl true
theorem fin_seq {m1 m2 : M Fl} {E E1 : Ev} (h : m1 E = .ok .nx E1) (f : Fin m2 E1) : Fin (sSeq m1 m2) E := by
  obtain ⟨r, E', e, hr⟩ := f
  exact ⟨r, E', (seq_nx h).trans e, hr⟩
theorem seq_assoc (a b c : M Fl) (E : Ev) : sSeq a (sSeq b c) E = sSeq (sSeq a b) c E := by
  unfold sSeq
  cases a E with
  | ok f E1 => cases f <;> rfl
  | ex x E1 => rfl
  | stuck => rfl
theorem fin_seq2 {a b c : M Fl} {E E1 : Ev} (h : sSeq a b E = .ok .nx E1) (f : Fin c E1) : Fin (sSeq a (sSeq b c)) E := by
  obtain ⟨r, E', e, hr⟩ := fin_seq h f
  exact ⟨r, E', (seq_assoc a b c E).trans e, hr⟩
theorem fin_seq3 {a b c d : M Fl} {E E1 : Ev} (h : sSeq a (sSeq b c) E = .ok .nx E1) (f : Fin d E1) : Fin (sSeq a (sSeq b (sSeq c d))) E := by
  obtain ⟨r, E', e, hr⟩ := fin_seq h f
  refine ⟨r, E', ?_, hr⟩
  rw [seq_assoc a b (sSeq c d) E, seq_assoc (sSeq a b) c d E]
  have : sSeq (sSeq (sSeq a b) c) d E = sSeq (sSeq a (sSeq b c)) d E := by
    have e1 : sSeq (sSeq a b) c E = sSeq a (sSeq b c) E := (seq_assoc a b c E).symm
    show ((sSeq (sSeq a b) c E).bind _) = ((sSeq a (sSeq b c) E).bind _)
    rw [e1]
  exact this.trans e
theorem prod_le : ∀ small : List Nat, small.length ≤ 3 → (∀ c ∈ small, 0 < c ∧ c ≤ 12) → prodN 1 small ≤ 1728
  | [], _, _ => by decide
  | [x], _, h => by
    have h1 := h x (by simp)
    show 1 * x ≤ 1728
    omega
  | [x, y], _, h => by
    have h1 := h x (by simp)
    have h2 := h y (by simp)
    have := Nat.mul_le_mul h1.2 h2.2
    show 1 * x * y ≤ 1728
    rw [Nat.one_mul]
    omega
  | [x, y, z], _, h => by
    have h1 := h x (by simp)
    have h2 := h y (by simp)
    have h3 := h z (by simp)
    have := Nat.mul_le_mul (Nat.mul_le_mul h1.2 h2.2) h3.2
    show 1 * x * y * z ≤ 1728
    rw [Nat.one_mul]
    omega
  | _ :: _ :: _ :: _ :: _, h, _ => absurd h (by simp)
theorem due : Due := by
  intro ns _
  have key : Fin m_law (ev0 33 [.scr (ns.map .int)]) := by
    unfold m_law
    obtain ⟨s, t, h0⟩ := s0 ns
    refine fin_seq h0 ?_
    obtain ⟨a, b, s, t, ⟨ha, hb⟩, h1⟩ := s1 (.sh (.scr (ns.map .int))) s t
    refine fin_seq h1 ?_
    generalize (Sl.sh (.scr (ns.map .int))) = z0
    obtain ⟨n, s, t, hn, h2⟩ := s2 z0 s t a b
    refine fin_seq h2 (fin_seq (s3 z0 s t a b n ha hb) ?_)
    obtain ⟨z5, h4⟩ := s4 z0 s t a b n hb
    refine fin_seq h4 ?_
    obtain ⟨row, s, t, ⟨_, hrow⟩, h5⟩ := s5 z0 z5 s t a b n
    refine fin_seq h5 (fin_seq (s6 z0 z5 s t a b n row) ?_)
    obtain ⟨z8, h8, h7⟩ := s7 z0 z5 s t a b n row hrow
    refine fin_seq h7 (fin_seq (s8 z0 z5 z8 s t a b n row hrow) ?_)
    generalize (Sl.sh (.tup (row.map .int))) = z6
    generalize (sI (row.foldl gF 0 : Nat)) = z7
    obtain ⟨small, s, t, ⟨hsl, hsm⟩, h9⟩ := s9 z0 z5 z6 z8 z7 s t a b n
    refine fin_seq h9 (fin_seq (s10 z0 z5 z6 z8 z7 s t a b n small) ?_)
    obtain ⟨z8, h8, h11⟩ := s11 z0 z5 z6 z8 z7 s t a b n small hsm h8
    refine fin_seq h11 (fin_seq (s12 z0 z5 z6 z8 z7 s t a b n small hsl hsm h8 (prod_le small hsl hsm)) ?_)
    generalize (Sl.sh (.tup (small.map fun c : Nat => D.int (c : Int)))) = z9
    generalize (sI (prodN 1 small : Nat)) = z10
    refine fin_seq (s13 z0 z5 z6 z7 z8 z9 z10 s t a b n hn) ?_
    obtain ⟨k, s, t, hk, h14⟩ := s14 z0 z5 z6 z7 z8 z9 z10 s t a b n
    refine fin_seq h14 ?_
    obtain ⟨z13, h15⟩ := s15 z0 z5 z6 z7 z8 z9 z10 s t a b n ha k hk
    refine fin_seq h15 (fin_seq (m1 := ml_16) (E1 := (z0 :: (sT s t) :: (sI a) :: (sI b) :: (sI n) :: z5 :: z6 :: z7 :: z8 :: z9 :: z10 :: (sI (mulN 1 a k)) :: (sI (k : Nat)) :: z13 :: (sI 1) :: Sl.un :: Sl.un :: Sl.un :: Sl.un :: Sl.un :: Sl.un :: Sl.un :: Sl.un :: Sl.un :: Sl.un :: Sl.un :: Sl.un :: Sl.un :: Sl.un :: Sl.un :: Sl.un :: Sl.un :: Sl.un :: [])) rfl ?_)
    refine fin_seq (t17 _ _ _ _ _ _ _ _ _ _ _ _ _ _ k hk) ?_
    refine fin_seq (s18 z0 z5 z6 z7 z8 z9 z10 (q13 z13 k) s t a b n ha k hk) ?_
    generalize (q13 z13 k) = z13
    generalize (sI (mulN 1 a k)) = z11
    generalize (sI (fac k)) = z14
    obtain ⟨d12, hd12⟩ : ∃ d12 : D, sI (k : Nat) = .sh d12 := ⟨_, rfl⟩
    rw [hd12]
    obtain ⟨m, k, s, t, ⟨hm, hk⟩, h19⟩ := s19 z0 z5 z6 z7 z8 z9 z10 z13 z14 z11 d12 s t a b n
    refine fin_seq h19 (fin_seq2 (t20 _ _ _ _ _ _ _ _ _ _ _ _ _ _ _ _ m hm k hk) ?_)
    obtain ⟨items, s, t, z13, hi, h22⟩ := s22 z0 z5 z6 z7 z8 z9 z10 z13 z14 z11 (.sh (.int (m : Nat))) (.sh (.int (k : Nat))) (.sh (chL m k)) d12 s t a b n
    refine fin_seq h22 ?_
    generalize (Sl.sh (.int (m : Nat))) = z15
    generalize (Sl.sh (.int (k : Nat))) = z16
    generalize (Sl.sh (chL m k)) = z17
    obtain ⟨z19, z20, z21, h25⟩ := s2345 z0 z5 z6 z7 z8 z9 z10 z13 z14 z11 z15 z16 z17 d12 s t a b n items hi
    refine fin_seq3 h25 ?_
    generalize (Sl.sh (.tup (items.map .int))) = z18
    obtain ⟨m, s, t, hm, h26⟩ := s26 z0 z5 z6 z7 z8 z9 z10 z13 z14 z11 z15 z16 z17 z18 z19 z20 z21 d12 s t a b n
    refine fin_seq h26 (fin_seq2 (t27 _ _ _ _ _ _ _ _ _ _ _ _ _ _ _ _ _ _ _ _ _ _ m hm) ?_)
    obtain ⟨p, q, s, t, ⟨hp, hq⟩, h29⟩ := s29 z0 z5 z6 z7 z8 z9 z10 z13 z14 z11 z16 z17 z18 z19 z20 z21 d12 s t a b n m hm
    refine fin_seq h29 ?_
    cases z8 with
    | un =>
      refine fin_seq (t30u _ _ _ _ _ _ _ _ _ _ _ _ _ _ _ _ _ _ _ _ _ _ m hm p hp) (fin_seq (t31 _ _ _ _ _ _ _ _ _ _ _ _ _ _ _ _ _ _ _ _ _ _ m hm p hp q hq) (fin_seq (t32u _ _ _ _ _ _ _ _ _ _ _ _ _ _ _ _ _ _ _ _ _ _ _ _ _ _ m hm p hp) ?_))
      exact ⟨_, _, t33 _ _ _ _ _ _ _ _ _ _ _ _ _ _ _ _ _ _ _ _ _ _ _ _ _ _ _ _ _, rfl⟩
    | sh d8 =>
      refine fin_seq (t30s _ _ _ _ _ _ _ _ _ _ _ _ _ _ _ _ _ _ _ _ _ _ d8 m hm p hp) (fin_seq (t31 _ _ _ _ _ _ _ _ _ _ _ _ _ _ _ _ _ _ _ _ _ _ m hm p hp q hq) (fin_seq (t32s _ _ _ _ _ _ _ _ _ _ _ _ _ _ _ _ _ _ _ _ _ _ _ _ _ _ d8 m hm p hp) ?_))
      exact ⟨_, _, t33 _ _ _ _ _ _ _ _ _ _ _ _ _ _ _ _ _ _ _ _ _ _ _ _ _ _ _ _ _, rfl⟩
    | ow d => cases h8
    | bo d => cases h8
  obtain ⟨r, E', e, hr⟩ := key
  exact ⟨r, mFn_rt e, hr⟩
end K00
theorem PySem.Challenge.cw_bracketroads_k00_whole_integers_choices_holds : PySem.Challenge.rw_bracketroads_k00_whole_integers_choices.Holds := by
  exact K00.holds_of K00.due
