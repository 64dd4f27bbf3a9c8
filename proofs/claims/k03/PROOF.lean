import PyProof.Rows.All
import Wide.All
import OpenK.AllK
import Wide.FinOn
import HandS.ForMost
import HandS.Exc
import HandS.WordsExc
import HandS.TryMany
import HandS.ExcOwn
import HandS.CallLocal
import HandS.CallSlots
import HandS.IsInst
import HandS.Zip
import HandS.TupMul
import HandS.TupAny
import HandS.TupSets
import HandS.Conv
import HandS.Wide
import HandS.More
import HandS.Defaults
import HandS.Style
import HandS.HeadHook2
import HandS.Head2
import HandS.HeadEnd
import HandS.SortRule
import PyProof.MaxThree
import PyProof.SumWalkG
import KE.GoesMore
import PyProof.EnumMake
import PySem.Challenge.RW_bracketroads_k03_whole_least_rows
set_option Elab.async false
set_option linter.all false
set_option maxRecDepth 100000
set_option autoImplicit false
set_option maxHeartbeats 0
/-! MM: values as plain data, and what a def computes as a plain function: judgements over HandS. -/
namespace MM
open PySem PySem.Spec PyProof.Rows L2

abbrev St := L2.St
/-! ### data -/
/-- a built-in type -/
inductive Ty where
  | int | bool | str | tuple | list | dict
  deriving DecidableEq
def Ty.name : Ty → String
  | .int => "int"
  | .bool => "bool"
  | .str => "str"
  | .tuple => "tuple"
  | .list => "list"
  | .dict => "dict"
inductive D where
  | non | bl (b : Bool) | int (i : Int) | str (x : Str) | gl (n : Nat) | ty (s : Ty)
  | tup (xs : List D) | lst (xs : List D) | scr (xs : List D) | obj (c : Nat) (fs : List (Str × D)) | dic (kvs : List (D × D))

/-- the written part, and where the text's defs and classes stand -/
structure Ctx where
  K : PySem.W.Frag
  fa : Nat → Addr

def keyD : Key → D
  | .inl i => .int i
  | .inr x => .str x

mutual
inductive Rep (C : Ctx) (F : Hp) : V → D → Prop
  | non : Rep C F .non .non
  | bl (b : Bool) : Rep C F (.bl b) (.bl b)
  | int (i : Int) : Rep C F (.int i) (.int i)
  | str (x : Str) : Rep C F (.str x) (.str x)
  | gl (n : Nat) : Rep C F (.ref (C.fa n)) (.gl n)
  | ty (s : Ty) : Rep C F (.ty s.name) (.ty s)
  | tup {a vs ds} : SqT C.K F a vs → RepL C F vs ds → Rep C F (.ref a) (.tup ds)
  | lst {a vs ds} : F a = some (.lst vs) → RepL C F vs ds → Rep C F (.ref a) (.lst ds)
  | scr {a vs ds} : SqL C.K F a vs → RepL C F vs ds → Rep C F (.ref a) (.scr ds)
  | obj {a c dx fvs fs} : F a = some (.ins (C.fa c) dx fvs) → RepF C F fvs fs → Rep C F (.ref a) (.obj c fs)
  | dicK {a} {kvs : List (Key × V)} {ds} : F a = some (.dK kvs) → RepK C F kvs ds → Rep C F (.ref a) (.dic ds)
  | dicT {a} {kvs : List (List Key × V)} {ds} : F a = some (.dT kvs) → RepT C F kvs ds → Rep C F (.ref a) (.dic ds)
inductive RepL (C : Ctx) (F : Hp) : List V → List D → Prop
  | nil : RepL C F [] []
  | cons {v d vs ds} : Rep C F v d → RepL C F vs ds → RepL C F (v :: vs) (d :: ds)
inductive RepF (C : Ctx) (F : Hp) : List (Str × V) → List (Str × D) → Prop
  | nil : RepF C F [] []
  | cons {x v d vs ds} : Rep C F v d → RepF C F vs ds → RepF C F ((x, v) :: vs) ((x, d) :: ds)
inductive RepK (C : Ctx) (F : Hp) : List (Key × V) → List (D × D) → Prop
  | nil : RepK C F [] []
  | cons {x v d vs ds} : Rep C F v d → RepK C F vs ds → RepK C F ((x, v) :: vs) ((keyD x, d) :: ds)
inductive RepT (C : Ctx) (F : Hp) : List (List Key × V) → List (D × D) → Prop
  | nil : RepT C F [] []
  | cons {x v d vs ds} : Rep C F v d → RepT C F vs ds → RepT C F ((x, v) :: vs) ((.tup (x.map keyD), d) :: ds)
end

theorem SqT_mono {K : PySem.W.Frag} {F F' : Hp} {a : Addr} {xs : List V} (e : Same F F') (h : SqT K F a xs) : SqT K F' a xs := by
  rcases h with (h | ⟨o, h⟩) | h
  · exact .inl (.inl (e _ _ h))
  · exact .inl (.inr ⟨o, e _ _ h⟩)
  · exact .inr h
theorem Rd_mono {F F' : Hp} {a : Addr} {u : HO} (e : Same F F') (h : Rd F a u) : Rd F' a u := by
  rcases h with h | ⟨o, h⟩
  · exact .inl (e _ _ h)
  · exact .inr ⟨o, e _ _ h⟩
mutual
theorem Rep.mono {C : Ctx} {F F' : Hp} (e : Same F F') : ∀ {v d}, Rep C F v d → Rep C F' v d
  | _, _, .non => .non
  | _, _, .bl b => .bl b
  | _, _, .int b => .int b
  | _, _, .str b => .str b
  | _, _, .gl b => .gl b
  | _, _, .ty b => .ty b
  | _, _, .tup h r => .tup (SqT_mono e h) (RepL.mono e r)
  | _, _, .lst h r => .lst (e _ _ h) (RepL.mono e r)
  | _, _, .scr h r => .scr (e.seq h) (RepL.mono e r)
  | _, _, .obj h r => .obj (e _ _ h) (RepF.mono e r)
  | _, _, .dicK h r => .dicK (e _ _ h) (RepK.mono e r)
  | _, _, .dicT h r => .dicT (e _ _ h) (RepT.mono e r)
theorem RepL.mono {C : Ctx} {F F' : Hp} (e : Same F F') : ∀ {v d}, RepL C F v d → RepL C F' v d
  | _, _, .nil => .nil
  | _, _, .cons h r => .cons (Rep.mono e h) (RepL.mono e r)
theorem RepF.mono {C : Ctx} {F F' : Hp} (e : Same F F') : ∀ {v d}, RepF C F v d → RepF C F' v d
  | _, _, .nil => .nil
  | _, _, .cons h r => .cons (Rep.mono e h) (RepF.mono e r)
theorem RepK.mono {C : Ctx} {F F' : Hp} (e : Same F F') : ∀ {v d}, RepK C F v d → RepK C F' v d
  | _, _, .nil => .nil
  | _, _, .cons h r => .cons (Rep.mono e h) (RepK.mono e r)
theorem RepT.mono {C : Ctx} {F F' : Hp} (e : Same F F') : ∀ {v d}, RepT C F v d → RepT C F' v d
  | _, _, .nil => .nil
  | _, _, .cons h r => .cons (Rep.mono e h) (RepT.mono e r)
end

section
variable {C : Ctx} {F F' H H' : Hp}
theorem RepL.length : ∀ {vs ds}, RepL C F vs ds → vs.length = ds.length
  | _, _, .nil => rfl
  | _, _, .cons _ r => congrArg (· + 1) r.length
theorem RepL.append : ∀ {vs ds vs' ds'}, RepL C F vs ds → RepL C F vs' ds' → RepL C F (vs ++ vs') (ds ++ ds')
  | _, _, _, _, .nil, q => q
  | _, _, _, _, .cons h r, q => .cons h (r.append q)
theorem RepL.get : ∀ {vs ds} {i : Nat} {d : D}, RepL C F vs ds → ds[i]? = some d → ∃ v, vs[i]? = some v ∧ Rep C F v d
  | _, _, _, _, .nil, e => by simp at e
  | _, _, 0, _, .cons h _, e => by simp at e; subst e; exact ⟨_, rfl, h⟩
  | _, _, i + 1, _, .cons _ r, e => by
    obtain ⟨v, h1, h2⟩ := RepL.get (i := i) r (by simpa using e)
    exact ⟨v, by simpa using h1, h2⟩
theorem RepL.take : ∀ {vs ds} (n : Nat), RepL C F vs ds → RepL C F (vs.take n) (ds.take n)
  | _, _, 0, _ => .nil
  | _, _, _ + 1, .nil => .nil
  | _, _, n + 1, .cons h r => .cons h (r.take n)
theorem RepL.drop : ∀ {vs ds} (n : Nat), RepL C F vs ds → RepL C F (vs.drop n) (ds.drop n)
  | _, _, 0, r => r
  | _, _, _ + 1, .nil => .nil
  | _, _, n + 1, .cons _ r => r.drop n
theorem RepL.set {v : V} {d : D} (h : Rep C F v d) : ∀ {vs ds} (i : Nat), RepL C F vs ds → RepL C F (vs.set i v) (ds.set i d)
  | _, _, _, .nil => .nil
  | _, _, 0, .cons _ r => .cons h r
  | _, _, i + 1, .cons q r => .cons q (RepL.set h i r)
theorem RepL.reverse : ∀ {vs ds}, RepL C F vs ds → RepL C F vs.reverse ds.reverse
  | _, _, .nil => .nil
  | _, _, .cons h r => by rw [List.reverse_cons, List.reverse_cons]; exact r.reverse.append (.cons h .nil)
theorem RepL.one {v d} (h : Rep C F v d) : RepL C F [v] [d] := .cons h .nil
end

/-! ### what is owned, what is new -/
def Own (C : Ctx) (F H : Hp) (a : Addr) (d : D) : Prop := F a = none ∧ match d with
  | .lst ds => ∃ vs, H a = some (.lst vs) ∧ RepL C F vs ds
  | .dic ds => (∃ kvs, H a = some (.dK kvs) ∧ RepK C F kvs ds) ∨ (∃ kvs, H a = some (.dT kvs) ∧ RepT C F kvs ds)
  | .obj c fs => ∃ dx fvs, H a = some (.ins (C.fa c) dx fvs) ∧ RepF C F fvs fs
  | _ => False
/-- the tracked heap grows; what stands at b may change -/
structure Grow (b : Addr → Prop) (F H F' H' : Hp) : Prop where
  hs : ∀ a o, H a = some o → ¬ b a → H' a = some o
  bs : ∀ a, H' a = none → H a = none
  fs : Same F F'
  fh : Same F' H'
  nw : ∀ a, F' a ≠ none → F a ≠ none ∨ H a = none
abbrev NoB : Addr → Prop := fun _ => False
section
variable {C : Ctx} {b : Addr → Prop} {F F' F'' H H' H'' : Hp} {a : Addr} {d : D}
theorem Grow.refl (h : Same F H) : Grow b F H F H := ⟨fun _ _ e _ => e, fun _ e => e, Same.refl F, h, fun _ e => .inl e⟩
theorem Grow.trans (g : Grow b F H F' H') (g' : Grow NoB F' H' F'' H'') : Grow b F H F'' H'' where
  hs := fun a o e n => g'.hs a o (g.hs a o e n) (fun z => z)
  bs := fun a e => g.bs a (g'.bs a e)
  fs := g.fs.trans g'.fs
  fh := g'.fh
  nw := fun a e => by
    rcases g'.nw a e with h | h
    · exact g.nw a h
    · exact .inr (g.bs a h)
/-- a call that changes what stands at a, our own -/
theorem Grow.transB (g : Grow b F H F' H') (g' : Grow (fun c => c = a) F' H' F'' H'') (ha : H a = none ∨ b a) : Grow b F H F'' H'' where
  hs := fun c o e n => g'.hs c o (g.hs c o e n) (fun z => by
    subst z
    rcases ha with h | h
    · rw [h] at e; cases e
    · exact n h)
  bs := fun a e => g.bs a (g'.bs a e)
  fs := g.fs.trans g'.fs
  fh := g'.fh
  nw := fun c e => by
    rcases g'.nw c e with h | h
    · exact g.nw c h
    · exact .inr (g.bs c h)
/-- nothing new: the same heap -/
theorem Grow.to {b' : Addr → Prop} (g : Grow NoB F H F' H') : Grow b' F H F' H' := ⟨fun a o e _ => g.hs a o e (fun z => z), g.bs, g.fs, g.fh, g.nw⟩
/-- a new object, frozen at once -/
theorem Grow.new {p : Addr} {o : HO} (h : Same F H) (hp : H p = none) : Grow NoB F H (upd F p o) (upd H p o) where
  hs := fun c u e _ => by rw [upd_ne (ne_of_none e hp)]; exact e
  bs := fun c e => by
    by_cases q : c = p
    · subst q; exact hp
    · rw [upd_ne q] at e; exact e
  fs := fun c u e => by rw [upd_ne (ne_of_none (h _ _ e) hp)]; exact e
  fh := fun c u e => by
    by_cases q : c = p
    · subst q; rw [upd_same] at e ⊢; exact e
    · rw [upd_ne q] at e ⊢; exact h _ _ e
  nw := fun c e => by
    by_cases q : c = p
    · subst q; exact .inr hp
    · rw [upd_ne q] at e; exact .inl e
/-- a new object, not frozen -/
theorem Grow.newO {p : Addr} {o : HO} (h : Same F H) (hp : H p = none) : Grow NoB F H F (upd H p o) where
  hs := fun c u e _ => by rw [upd_ne (ne_of_none e hp)]; exact e
  bs := fun c e => by
    by_cases q : c = p
    · subst q; exact hp
    · rw [upd_ne q] at e; exact e
  fs := Same.refl F
  fh := fun c u e => by rw [upd_ne (ne_of_none (h _ _ e) hp)]; exact h _ _ e
  nw := fun c e => .inl e

/-- what is owned stays so while others grow -/
theorem Own.grow (o : Own C F H a d) (g : Grow b F H F' H') (nb : ¬ b a) : Own C F' H' a d := by
  obtain ⟨n, r⟩ := o
  have key : ∀ u, H a = some u → F' a = none ∧ H' a = some u := fun u e => by
    refine ⟨?_, g.hs a u e nb⟩
    cases q : F' a with
    | none => rfl
    | some z =>
      rcases g.nw a (by rw [q]; simp) with h | h
      · exact absurd n h
      · rw [e] at h; cases h
  cases d with
  | lst ds => obtain ⟨vs, e, r⟩ := r; exact ⟨(key _ e).1, vs, (key _ e).2, r.mono g.fs⟩
  | dic ds =>
    rcases r with ⟨kvs, e, r⟩ | ⟨kvs, e, r⟩
    · exact ⟨(key _ e).1, .inl ⟨kvs, (key _ e).2, r.mono g.fs⟩⟩
    · exact ⟨(key _ e).1, .inr ⟨kvs, (key _ e).2, r.mono g.fs⟩⟩
  | obj c fs => obtain ⟨dx, fvs, e, r⟩ := r; exact ⟨(key _ e).1, dx, fvs, (key _ e).2, r.mono g.fs⟩
  | _ => exact r.elim
theorem Own.tracked (o : Own C F H a d) : ∃ u, H a = some u := by
  obtain ⟨n, r⟩ := o
  cases d with
  | lst ds => obtain ⟨vs, e, r⟩ := r; exact ⟨_, e⟩
  | dic ds => rcases r with ⟨kvs, e, r⟩ | ⟨kvs, e, r⟩ <;> exact ⟨_, e⟩
  | obj c fs => obtain ⟨dx, fvs, e, r⟩ := r; exact ⟨_, e⟩
  | _ => exact r.elim
/-- frozen: from now on it is read only -/
theorem Own.rep (o : Own C F H a d) (h : Same F H) : ∃ u, H a = some u ∧ Same F (upd F a u) ∧ Rep C (upd F a u) (.ref a) d := by
  obtain ⟨n, r⟩ := o
  have st : ∀ u, Same F (upd F a u) := fun u c v e => by rw [upd_ne (ne_of_none e n)]; exact e
  cases d with
  | lst ds => obtain ⟨vs, e, r⟩ := r; exact ⟨_, e, st _, .lst upd_same (r.mono (st _))⟩
  | dic ds =>
    rcases r with ⟨kvs, e, r⟩ | ⟨kvs, e, r⟩
    · exact ⟨_, e, st _, .dicK upd_same (r.mono (st _))⟩
    · exact ⟨_, e, st _, .dicT upd_same (r.mono (st _))⟩
  | obj c fs => obtain ⟨dx, fvs, e, r⟩ := r; exact ⟨_, e, st _, .obj upd_same (r.mono (st _))⟩
  | _ => exact r.elim
end

/-! ### a result, an exception, the slots -/
inductive RV where
  | sh (d : D) | fr (d : D)
def RV.d : RV → D
  | .sh d => d
  | .fr d => d
/-- an exception: its class, what stands in its own dict -/
structure Xc where
  c : Nat
  fs : Option (List (Str × D))
inductive Sl where
  | un | sh (d : D) | ow (d : D) | bo (d : D)
abbrev Ev := List Sl
inductive Out (α : Type) where
  | ok (a : α) (E : Ev) | ex (x : Xc) (E : Ev) | stuck
abbrev M (α : Type) := Ev → Out α
def Out.bind {α β : Type} (o : Out α) (f : α → Ev → Out β) : Out β := match o with
  | .ok a E => f a E
  | .ex x E => .ex x E
  | .stuck => .stuck
def M.pure {α : Type} (a : α) : M α := fun E => .ok a E
def M.bind {α β : Type} (m : M α) (f : α → M β) : M β := fun E => (m E).bind fun a E' => f a E'

/-- the entry of a def -/
structure Base where
  F0 : Hp
  H0 : Hp
  b : Addr → Prop
  pin : Hp
def SlOk (C : Ctx) (B : Base) (F H : Hp) : Sl → Option (Option V) → Prop
  | .un, _ => True
  | .sh d, o => ∃ v, o = some (some v) ∧ Rep C F v d
  | .ow d, o => ∃ a, o = some (some (.ref a)) ∧ Own C F H a d ∧ B.H0 a = none
  | .bo d, o => ∃ a, o = some (some (.ref a)) ∧ Own C F H a d ∧ B.b a
def Sl.own : Sl → Bool
  | .ow _ => true
  | .bo _ => true
  | _ => false
/-- a new object's address is no slot's own -/
def Apart (E : Ev) (σ : St) (a : Addr) : Prop := ∀ (i : Nat) (s : Sl), E[i]? = some s → s.own = true → σ[i]? ≠ some (some (.ref a))
structure Sim (C : Ctx) (B : Base) (F H : Hp) (E : Ev) (σ : St) : Prop where
  g : Grow B.b B.F0 B.H0 F H
  len : σ.length = E.length
  sl : ∀ (i : Nat) (s : Sl), E[i]? = some s → SlOk C B F H s σ[i]?
  sep : ∀ (i j : Nat) (s t : Sl) (a : Addr), E[i]? = some s → E[j]? = some t → s.own = true → t.own = true → σ[i]? = some (some (.ref a)) → σ[j]? = some (some (.ref a)) → i = j
  pn : ∀ a o, B.pin a = some o → H a = some o ∧ F a = none ∧ Apart E σ a
def RepR (C : Ctx) (B : Base) (F H : Hp) (E : Ev) (σ : St) : RV → V → Prop
  | .sh d, v => Rep C F v d
  | .fr d, v => ∃ a, v = .ref a ∧ Own C F H a d ∧ B.H0 a = none ∧ Apart E σ a ∧ B.pin a = none
section
variable {C : Ctx} {B : Base} {F F' H H' : Hp} {E E' : Ev} {σ : St} {a : Addr} {d : D} {r : RV} {v : V}
theorem SlOk.grow {s : Sl} {o : Option (Option V)} (x : SlOk C B F H s o) (g : Grow NoB F H F' H') : SlOk C B F' H' s o := by
  cases s with
  | un => trivial
  | sh d => obtain ⟨v, e, r⟩ := x; exact ⟨v, e, r.mono g.fs⟩
  | ow d => obtain ⟨a, e, r, n⟩ := x; exact ⟨a, e, r.grow g (fun z => z), n⟩
  | bo d => obtain ⟨a, e, r, n⟩ := x; exact ⟨a, e, r.grow g (fun z => z), n⟩
theorem Sim.grow (S : Sim C B F H E σ) (g : Grow NoB F H F' H') : Sim C B F' H' E σ :=
  ⟨S.g.trans g, S.len, fun i s e => (S.sl i s e).grow g, S.sep, fun a o e => by
    obtain ⟨h1, h2, h3⟩ := S.pn a o e
    refine ⟨g.hs a o h1 (fun z => z), ?_, h3⟩
    cases q : F' a with
    | none => rfl
    | some z =>
      rcases g.nw a (by rw [q]; simp) with h | h
      · exact absurd h2 h
      · rw [h1] at h; cases h⟩
theorem Sim.fh (S : Sim C B F H E σ) : Same F H := S.g.fh
/-- an owned slot's address is tracked and not frozen -/
theorem Sim.at {i : Nat} {s : Sl} (S : Sim C B F H E σ) (e : E[i]? = some s) (o : s.own = true) : ∃ a d, σ[i]? = some (some (.ref a)) ∧ Own C F H a d ∧ (s = .ow d ∨ s = .bo d) ∧ (B.H0 a = none ∨ B.b a) := by
  have q := S.sl i s e
  cases s with
  | un => cases o
  | sh d => cases o
  | ow d => obtain ⟨a, h1, h2, h3⟩ := q; exact ⟨a, d, h1, h2, .inl rfl, .inl h3⟩
  | bo d => obtain ⟨a, h1, h2, h3⟩ := q; exact ⟨a, d, h1, h2, .inr rfl, .inr h3⟩
/-- a fresh thing is frozen -/
theorem Sim.freeze (S : Sim C B F H E σ) (o : Own C F H a d) (n : B.H0 a = none) (ap : Apart E σ a) (pn : B.pin a = none) : ∃ F', Sim C B F' H E σ ∧ Same F F' ∧ Rep C F' (.ref a) d := by
  obtain ⟨u, e, st, r⟩ := o.rep S.fh
  refine ⟨upd F a u, ⟨⟨S.g.hs, S.g.bs, S.g.fs.trans st, fun c w q => ?_, fun c q => ?_⟩, S.len, fun i s q => ?_, S.sep, fun c w q => ?_⟩, st, r⟩
  · by_cases z : c = a
    · subst z; rw [upd_same] at q; cases q; exact e
    · rw [upd_ne z] at q; exact S.fh _ _ q
  · by_cases z : c = a
    · subst z; exact .inr n
    · rw [upd_ne z] at q; exact S.g.nw c q
  · have x := S.sl i s q
    have own : ∀ b' d', σ[i]? = some (some (.ref b')) → s.own = true → Own C F H b' d' → Own C (upd F a u) H b' d' := fun b' d' h1 h2 h3 => by
      have ne : b' ≠ a := fun z => ap i s q h2 (z ▸ h1)
      obtain ⟨n', r'⟩ := h3
      refine ⟨by rw [upd_ne ne]; exact n', ?_⟩
      cases d' with
      | lst ds => obtain ⟨vs, e, r⟩ := r'; exact ⟨vs, e, r.mono st⟩
      | dic ds =>
        rcases r' with ⟨kvs, e, r⟩ | ⟨kvs, e, r⟩
        · exact .inl ⟨kvs, e, r.mono st⟩
        · exact .inr ⟨kvs, e, r.mono st⟩
      | obj c fs => obtain ⟨dx, fvs, e, r⟩ := r'; exact ⟨dx, fvs, e, r.mono st⟩
      | _ => exact r'.elim
    cases s with
    | un => trivial
    | sh d => obtain ⟨v, e, r⟩ := x; exact ⟨v, e, r.mono st⟩
    | ow d => obtain ⟨b', h1, h2, h3⟩ := x; exact ⟨b', h1, own _ _ h1 rfl h2, h3⟩
    | bo d => obtain ⟨b', h1, h2, h3⟩ := x; exact ⟨b', h1, own _ _ h1 rfl h2, h3⟩
  · obtain ⟨h1, h2, h3⟩ := S.pn c w q
    have ne : c ≠ a := fun z => by rw [z, pn] at q; cases q
    exact ⟨h1, by rw [upd_ne ne]; exact h2, h3⟩
theorem Sim.toSh (S : Sim C B F H E σ) (hr : RepR C B F H E σ r v) : ∃ F', Sim C B F' H E σ ∧ Same F F' ∧ Rep C F' v r.d := by
  cases r with
  | sh d => exact ⟨F, S, Same.refl F, hr⟩
  | fr d =>
    obtain ⟨a, rfl, o, n, ap, pn⟩ := hr
    exact S.freeze o n ap pn
theorem Apart.set (h : Apart E σ a) (i : Nat) {t : Sl} (ht : t.own = false) (o : Option V) : Apart (E.set i t) (σ.set i o) a := fun j s e os => by
  rw [List.getElem?_set] at e
  split at e
  · split at e
    · cases e; rw [ht] at os; cases os
    · cases e
  · rename_i hij
    rw [List.getElem?_set_ne hij]
    exact h j s e os
theorem Apart.set1 (h : Apart E σ a) (i : Nat) {t : Sl} (ht : t.own = false) : Apart (E.set i t) σ a := fun j s e os => by
  rw [List.getElem?_set] at e
  split at e
  · split at e
    · cases e; rw [ht] at os; cases os
    · cases e
  · exact h j s e os
/-- a slot forgotten -/
theorem Sim.unset (S : Sim C B F H E σ) (i : Nat) : Sim C B F H (E.set i .un) σ := by
  refine ⟨S.g, by rw [List.length_set]; exact S.len, fun j s e => ?_, fun j k s t a e1 e2 o1 o2 => ?_, fun c o q => ⟨(S.pn c o q).1, (S.pn c o q).2.1, (S.pn c o q).2.2.set1 i rfl⟩⟩
  · rw [List.getElem?_set] at e
    split at e
    · split at e
      · cases e; trivial
      · cases e
    · exact S.sl j s e
  · rw [List.getElem?_set] at e1 e2
    split at e1
    · split at e1
      · cases e1; cases o1
      · cases e1
    · split at e2
      · split at e2
        · cases e2; cases o2
        · cases e2
      · exact S.sep j k s t a e1 e2 o1 o2
/-- a slot stored: a frozen value -/
theorem Sim.setSh (S : Sim C B F H E σ) (i : Nat) {v : V} {d : D} (r : Rep C F v d) : Sim C B F H (E.set i (.sh d)) (σ.set i (some v)) := by
  have hl := S.len
  refine ⟨S.g, by rw [List.length_set, List.length_set]; exact S.len, fun j s e => ?_, fun j k s t a e1 e2 o1 o2 => ?_, fun c o q => ⟨(S.pn c o q).1, (S.pn c o q).2.1, (S.pn c o q).2.2.set i rfl _⟩⟩
  · rw [List.getElem?_set] at e
    split at e
    · rename_i h; subst h
      split at e
      · cases e
        exact ⟨v, by rw [List.getElem?_set_self (by omega)], r⟩
      · cases e
    · rename_i h
      rw [List.getElem?_set_ne h]
      exact S.sl j s e
  · have ne : ∀ (j : Nat) (s : Sl), (E.set i (.sh d))[j]? = some s → s.own = true → i ≠ j ∧ E[j]? = some s := fun j s e o => by
      rw [List.getElem?_set] at e
      split at e
      · split at e
        · cases e; cases o
        · cases e
      · rename_i h; exact ⟨h, e⟩
    obtain ⟨n1, e1⟩ := ne j s e1 o1
    obtain ⟨n2, e2⟩ := ne k t e2 o2
    rw [List.getElem?_set_ne n1, List.getElem?_set_ne n2]
    exact S.sep j k s t a e1 e2 o1 o2
/-- .. a fresh thing -/
theorem Sim.setOw (S : Sim C B F H E σ) (i : Nat) (o : Own C F H a d) (n : B.H0 a = none) (ap : Apart E σ a) (pn : B.pin a = none) : Sim C B F H (E.set i (.ow d)) (σ.set i (some (.ref a))) := by
  have hl := S.len
  refine ⟨S.g, by rw [List.length_set, List.length_set]; exact S.len, fun j s e => ?_, fun j k s t c e1 e2 o1 o2 h1 h2 => ?_, fun c w q => ?_⟩
  · rw [List.getElem?_set] at e
    split at e
    · rename_i h; subst h
      split at e
      · cases e
        exact ⟨a, by rw [List.getElem?_set_self (by omega)], o, n⟩
      · cases e
    · rename_i h
      rw [List.getElem?_set_ne h]
      exact S.sl j s e
  · have ne : ∀ (j : Nat) (s : Sl), (E.set i (.ow d))[j]? = some s → s.own = true → (σ.set i (some (.ref a)))[j]? = some (some (.ref c)) → (i = j ∧ a = c) ∨ (i ≠ j ∧ E[j]? = some s ∧ σ[j]? = some (some (.ref c))) := fun j s e o h => by
      rw [List.getElem?_set] at e
      split at e
      · rename_i hij
        split at e
        · subst hij
          rw [List.getElem?_set_self (by omega)] at h
          cases h
          exact .inl ⟨rfl, rfl⟩
        · cases e
      · rename_i hij
        rw [List.getElem?_set_ne hij] at h
        exact .inr ⟨hij, e, h⟩
    rcases ne j s e1 o1 h1 with ⟨p1, p2⟩ | ⟨p1, p2, p3⟩
    · rcases ne k t e2 o2 h2 with ⟨q1, q2⟩ | ⟨q1, q2, q3⟩
      · rw [← p1, ← q1]
      · subst p2; exact absurd q3 (ap k t q2 o2)
    · rcases ne k t e2 o2 h2 with ⟨q1, q2⟩ | ⟨q1, q2, q3⟩
      · subst q2; exact absurd p3 (ap j s p2 o1)
      · exact S.sep j k s t c p2 q2 o1 o2 p3 q3
  · obtain ⟨h1, h2, h3⟩ := S.pn c w q
    refine ⟨h1, h2, fun j s e os z => ?_⟩
    rw [List.getElem?_set] at e
    split at e
    · rename_i hij
      split at e
      · subst hij
        rw [List.getElem?_set_self (by omega)] at z
        cases z
        rw [pn] at q; cases q
      · cases e
    · rename_i hij
      rw [List.getElem?_set_ne hij] at z
      exact h3 j s e os z
/-- what an owned slot holds has changed -/
theorem Sim.upd {i : Nat} {s s' : Sl} {d' : D} (S : Sim C B F H E σ) (e : E[i]? = some s) (hs : (s = .ow d ∧ s' = .ow d') ∨ (s = .bo d ∧ s' = .bo d')) (ha : σ[i]? = some (some (.ref a)))
    (g : Grow (fun c => c = a) F H F' H') (o : Own C F' H' a d') : Sim C B F' H' (E.set i s') σ := by
  have os : s.own = true := by rcases hs with ⟨rfl, _⟩ | ⟨rfl, _⟩ <;> rfl
  have os' : s'.own = true := by rcases hs with ⟨_, rfl⟩ | ⟨_, rfl⟩ <;> rfl
  obtain ⟨a', d0, h1, h2, h3, h4⟩ := S.at e os
  rw [ha] at h1; cases h1
  refine ⟨S.g.transB g h4, by rw [List.length_set]; exact S.len, fun j t q => ?_, fun j k t u c q1 q2 o1 o2 z1 z2 => ?_, fun c w q => ?_⟩
  · rw [List.getElem?_set] at q
    split at q
    · rename_i hij; subst hij
      split at q
      · cases q
        have x := S.sl _ _ e
        rcases hs with ⟨rfl, rfl⟩ | ⟨rfl, rfl⟩
        · obtain ⟨a2, y1, y2, y3⟩ := x
          rw [ha] at y1; cases y1
          exact ⟨a, ha, o, y3⟩
        · obtain ⟨a2, y1, y2, y3⟩ := x
          rw [ha] at y1; cases y1
          exact ⟨a, ha, o, y3⟩
      · cases q
    · rename_i hij
      have x := S.sl j t q
      have ne : ∀ c, σ[j]? = some (some (.ref c)) → t.own = true → c ≠ a := fun c z o z2 => hij (S.sep i j s t a e q os o ha (z2 ▸ z))
      cases t with
      | un => trivial
      | sh d => obtain ⟨v, e, r⟩ := x; exact ⟨v, e, r.mono g.fs⟩
      | ow d => obtain ⟨b', y1, y2, y3⟩ := x; exact ⟨b', y1, y2.grow g (ne b' y1 rfl), y3⟩
      | bo d => obtain ⟨b', y1, y2, y3⟩ := x; exact ⟨b', y1, y2.grow g (ne b' y1 rfl), y3⟩
  · have old : ∀ (j : Nat) (t : Sl), (E.set i s')[j]? = some t → t.own = true → ∃ t', E[j]? = some t' ∧ t'.own = true := fun j t q o => by
      rw [List.getElem?_set] at q
      split at q
      · rename_i hij; subst hij; exact ⟨s, e, os⟩
      · exact ⟨t, q, o⟩
    obtain ⟨t', p1, p2⟩ := old j t q1 o1
    obtain ⟨u', r1, r2⟩ := old k u q2 o2
    exact S.sep j k t' u' c p1 r1 p2 r2 z1 z2
  · obtain ⟨y1, y2, y3⟩ := S.pn c w q
    have ne : c ≠ a := fun z => y3 i s e os (z ▸ ha)
    refine ⟨g.hs c w y1 ne, ?_, fun j t z oz => ?_⟩
    · cases q' : F' c with
      | none => rfl
      | some z =>
        rcases g.nw c (by rw [q']; simp) with h | h
        · exact absurd y2 h
        · rw [y1] at h; cases h
    · rw [List.getElem?_set] at z
      split at z
      · rename_i hij; subst hij; exact y3 i s e os
      · exact y3 j t z oz
/-- an owned slot gives up its thing: it is a fresh result now -/
theorem Sim.give {i : Nat} (S : Sim C B F H E σ) (e : E[i]? = some (.ow d)) : ∃ a, σ[i]? = some (some (.ref a)) ∧ Own C F H a d ∧ B.H0 a = none ∧ Apart (E.set i .un) σ a ∧ B.pin a = none := by
  obtain ⟨a, h1, h2, h3⟩ := S.sl i _ e
  have hp : B.pin a = none := by
    cases q : B.pin a with
    | none => rfl
    | some w => exact absurd h1 ((S.pn a w q).2.2 i _ e rfl)
  refine ⟨a, h1, h2, h3, fun j s q o z => ?_, hp⟩
  rw [List.getElem?_set] at q
  split at q
  · split at q
    · cases q; cases o
    · cases q
  · rename_i hij
    exact hij (S.sep i j _ s a e q rfl o h1 z)
/-- an owned slot's thing is frozen where it stands -/
theorem Sim.freezeAt {i : Nat} (S : Sim C B F H E σ) (e : E[i]? = some (.ow d)) : ∃ F' a, Sim C B F' H (E.set i (.sh d)) σ ∧ Same F F' ∧ σ[i]? = some (some (.ref a)) ∧ Rep C F' (.ref a) d := by
  obtain ⟨a, h1, h2, h3, h4, h5⟩ := S.give e
  obtain ⟨F', S', st, r⟩ := (S.unset i).freeze h2 h3 h4 h5
  refine ⟨F', a, ?_, st, h1, r⟩
  have x := S'.setSh i r
  rw [List.set_set] at x
  have y : σ.set i (some (V.ref a)) = σ := by
    apply List.ext_getElem?
    intro j
    rw [List.getElem?_set]
    split
    · rename_i h; subst h
      split
      · exact h1.symm
      · rename_i h; rw [List.getElem?_eq_none (by omega)] at h1; cases h1
    · rfl
  rw [y] at x
  exact x
end
end MM

/-! MM: the rules. -/
namespace MM
open PySem PySem.Spec PyProof.Rows L2

/-! ### readings -/
def RepX (C : Ctx) (F : Hp) (x : Xc) (cls : Value) (d : Option Addr) : Prop := cls = .ref (C.fa x.c) ∧ match x.fs with
  | none => d = none
  | some fs => ∃ dx fvs, d = some dx ∧ F dx = some (.xd fvs) ∧ RepF C F fvs fs
def Post {α : Type} (C : Ctx) (B : Base) (W : WX) (F : Hp) (σ : St) (K : α → Ev → Prop) : Out α → Prop
  | .ok a E => K a E
  | .ex x E => ∀ cls d F' H', Sim C B F' H' E σ → Same F F' → RepX C F' x cls d → W cls d σ H'
  | .stuck => False
section
variable {C : Ctx} {B : Base} {W : WX} {F F' H H' : Hp} {E E' : Ev} {σ : St}
theorem Post.mono {α : Type} {K K' : α → Ev → Prop} {o : Out α} (p : Post C B W F σ K o) (st : Same F F') (h : ∀ a E, K a E → K' a E) : Post C B W F' σ K' o := by
  cases o with
  | ok a E => exact h a E p
  | ex x E => exact fun cls d F1 H1 S s1 => p cls d F1 H1 S (st.trans s1)
  | stuck => exact p
theorem Post.bind {α β : Type} {K : β → Ev → Prop} {o : Out α} {f : α → Ev → Out β} (p : Post C B W F σ K (o.bind f)) : Post C B W F σ (fun a E => Post C B W F σ K (f a E)) o := by
  cases o with
  | ok a E => exact p
  | ex x E => exact p
  | stuck => exact p
def kE (C : Ctx) (B : Base) (F : Hp) (σ : St) (Q : VK) (r : RV) (E : Ev) : Prop := ∀ v F' H', Sim C B F' H' E σ → Same F F' → RepR C B F' H' E σ r v → Q v H'
def kD (C : Ctx) (B : Base) (F : Hp) (σ : St) (Q : VK) (d : D) (E : Ev) : Prop := ∀ v F' H', Sim C B F' H' E σ → Same F F' → Rep C F' v d → Q v H'
def kA (C : Ctx) (B : Base) (F : Hp) (σ : St) (Q : List V → Hp → Prop) (ds : List D) (E : Ev) : Prop := ∀ vs F' H', Sim C B F' H' E σ → Same F F' → RepL C F' vs ds → Q vs H'
def kT (C : Ctx) (B : Base) (F : Hp) (σ : St) (Q : Bool → Hp → Prop) (b : Bool) (E : Ev) : Prop := ∀ F' H', Sim C B F' H' E σ → Same F F' → Q b H'
end
def tE (C : Ctx) (B : Base) (W : WX) (m : M RV) : TE := fun σ H Q => ∃ F E, Sim C B F H E σ ∧ Post C B W F σ (kE C B F σ Q) (m E)
def tA (C : Ctx) (B : Base) (W : WX) (m : M (List D)) : TA := fun σ H Q => ∃ F E, Sim C B F H E σ ∧ Post C B W F σ (kA C B F σ Q) (m E)
def tT (C : Ctx) (B : Base) (W : WX) (m : M Bool) : TT := fun σ H Q => ∃ F E, Sim C B F H E σ ∧ Post C B W F σ (kT C B F σ Q) (m E)
theorem PE.imp {X : Cx} {e : Expr} {t t' : TE} (h : PE X e t) (i : ∀ σ H Q, t' σ H Q → t σ H Q) : PE X e t' := ⟨fun p s σ H Q I w => h.run p s σ H Q I (i σ H Q w)⟩
theorem PA.imp {X : Cx} {e : List Expr} {t t' : TA} (h : PA X e t) (i : ∀ σ H Q, t' σ H Q → t σ H Q) : PA X e t' := ⟨fun pos p s σ H Q I w => h.run pos p s σ H Q I (i σ H Q w)⟩
theorem PT.imp {X : Cx} {e : Expr} {t t' : TT} (h : PT X e t) (i : ∀ σ H Q, t' σ H Q → t σ H Q) : PT X e t' := ⟨fun p s σ H Q I w => h.run p s σ H Q I (i σ H Q w)⟩
theorem PW.imp {X : Cx} {e : Expr} {t t' : TT} (h : PW X e t) (i : ∀ σ H Q, t' σ H Q → t σ H Q) : PW X e t' := ⟨fun wh p s σ H Q I w => h.run wh p s σ H Q I (i σ H Q w)⟩
theorem PS.imp {X : Cx} {e : Stmt} {t t' : TS} (h : PS X e t) (i : ∀ D σ H, t' D σ H → t D σ H) : PS X e t' := ⟨fun p s σ H D I w => h.run p s σ H D I (i D σ H w)⟩
theorem PSs.imp {X : Cx} {e : List Stmt} {t t' : TS} (h : PSs X e t) (i : ∀ D σ H, t' D σ H → t D σ H) : PSs X e t' := ⟨fun p s σ H D I w => h.run p s σ H D I (i D σ H w)⟩

/-- what an operation made: only new things -/
def NewR (C : Ctx) (F' H H' : Hp) : RV → V → Prop
  | .sh d, v => Rep C F' v d
  | .fr d, v => ∃ a, v = .ref a ∧ H a = none ∧ Own C F' H' a d
section
variable {C : Ctx} {B : Base} {W : WX} {F F' H H' : Hp} {E E' : Ev} {σ : St}
theorem Sim.newR {r : RV} {v : V} (S : Sim C B F H E σ) (g : Grow NoB F H F' H') (n : NewR C F' H H' r v) : Sim C B F' H' E σ ∧ RepR C B F' H' E σ r v := by
  refine ⟨S.grow g, ?_⟩
  cases r with
  | sh d => exact n
  | fr d =>
    obtain ⟨a, e, h0, o⟩ := n
    refine ⟨a, e, o, S.g.bs a h0, fun i s q os z => ?_, ?_⟩
    · obtain ⟨a', d', y1, y2, _⟩ := S.at q os
      rw [z] at y1; cases y1
      obtain ⟨u, hu⟩ := y2.tracked
      rw [h0] at hu; cases hu
    · cases q : B.pin a with
      | none => rfl
      | some w => have := (S.pn a w q).1; rw [h0] at this; cases this
/-- a list, a tuple that is new -/
theorem newT {vs : List V} {ds : List D} (h : Same F H) (r : RepL C F vs ds) {p : Addr} (hp : H p = none) : Grow NoB F H (upd F p (.tup vs)) (upd H p (.tup vs)) ∧ NewR C (upd F p (.tup vs)) H (upd H p (.tup vs)) (.sh (.tup ds)) (.ref p) :=
  ⟨Grow.new h hp, .tup (.inl (.inl upd_same)) (r.mono (Grow.new h hp).fs)⟩
theorem newL {vs : List V} {ds : List D} (h : Same F H) (r : RepL C F vs ds) {p : Addr} (hp : H p = none) : Grow NoB F H F (upd H p (.lst vs)) ∧ NewR C F H (upd H p (.lst vs)) (.fr (.lst ds)) (.ref p) :=
  ⟨Grow.newO h hp, p, rfl, hp, h.free hp, vs, upd_same, r⟩
/-- an operation by values: f tells what it makes (nothing but new things), none: not told -/
def Pure1 (C : Ctx) (r : V → Hp → VK → Prop) (f : D → Option RV) : Prop := ∀ (F H : Hp) (x : V) (dx : D) (R : RV) (Q : VK), Same F H → Rep C F x dx → f dx = some R →
  (∀ v F' H', Grow NoB F H F' H' → NewR C F' H H' R v → Q v H') → r x H Q
def Pure2 (C : Ctx) (r : R2) (f : D → D → Option RV) : Prop := ∀ (F H : Hp) (x y : V) (dx dy : D) (R : RV) (Q : VK), Same F H → Rep C F x dx → Rep C F y dy → f dx dy = some R →
  (∀ v F' H', Grow NoB F H F' H' → NewR C F' H H' R v → Q v H') → r x y H Q
def PureN (C : Ctx) (r : List V → Hp → VK → Prop) (f : List D → Option RV) : Prop := ∀ (F H : Hp) (xs : List V) (ds : List D) (R : RV) (Q : VK), Same F H → RepL C F xs ds → f ds = some R →
  (∀ v F' H', Grow NoB F H F' H' → NewR C F' H H' R v → Q v H') → r xs H Q
theorem NewR.same {d : D} {v : V} (st : Same F H) (h : Rep C F v d) {Q : VK} (q : ∀ v F' H', Grow NoB F H F' H' → NewR C F' H H' (.sh d) v → Q v H') : Q v H := q v F H (Grow.refl st) h
theorem Pure2.or {r r' : R2} {f : D → D → Option RV} {p : D → D → Bool} (h : ∀ F H x y dx dy R Q, Same F H → Rep C F x dx → Rep C F y dy → p dx dy = true → f dx dy = some R → (∀ v F' H', Grow NoB F H F' H' → NewR C F' H H' R v → Q v H') → r x y H Q)
    (h' : ∀ F H x y dx dy R Q, Same F H → Rep C F x dx → Rep C F y dy → p dx dy = false → f dx dy = some R → (∀ v F' H', Grow NoB F H F' H' → NewR C F' H H' R v → Q v H') → r' x y H Q) : Pure2 C (fun x y H Q => r x y H Q ∨ r' x y H Q) f := by
  intro F H x y dx dy R Q st rx ry e q
  cases hp : p dx dy with
  | true => exact .inl (h F H x y dx dy R Q st rx ry hp e q)
  | false => exact .inr (h' F H x y dx dy R Q st rx ry hp e q)
/-- the reading of an operand, then what follows at what it gave -/
theorem tE_go {m : M RV} {α : Type} {K : α → Ev → Prop} {f : RV → Ev → Out α} {Q : VK} (S : Sim C B F H E σ) (p : Post C B W F σ K ((m E).bind f))
    (h : ∀ (r : RV) (E1 : Ev) (v : V) (F1 H1 : Hp), Sim C B F1 H1 E1 σ → Same F F1 → Rep C F1 v r.d → Post C B W F1 σ K (f r E1) → Q v H1) : tE C B W m σ H Q := by
  refine ⟨F, E, S, p.bind.mono (Same.refl F) fun r E1 q v F1 H1 S1 st rr => ?_⟩
  obtain ⟨F2, S2, st2, r2⟩ := S1.toSh rr
  exact h r E1 v F2 H1 S2 (st.trans st2) r2 (q.mono (st.trans st2) fun _ _ z => z)
end

/-! ### what is computed -/
def liftO (o : Option RV) (E : Ev) : Out RV := match o with
  | some r => .ok r E
  | none => .stuck
def e1 (f : D → Option RV) (ma : M RV) : M RV := fun E => (ma E).bind fun a E1 => liftO (f a.d) E1
def e2 (f : D → D → Option RV) (ma mb : M RV) : M RV := fun E => (ma E).bind fun a E1 => (mb E1).bind fun b E2 => liftO (f a.d b.d) E2
def eN (f : List D → Option RV) (ma : M (List D)) : M RV := fun E => (ma E).bind fun ds E1 => liftO (f ds) E1
def eC (d : D) : M RV := fun E => .ok (.sh d) E
def eV (i : Nat) : M RV := fun E => match E[i]? with
  | some (.sh d) => .ok (.sh d) E
  | some (.ow d) => .ok (.sh d) (E.set i (.sh d))
  | _ => .stuck
def aNil : M (List D) := fun E => .ok [] E
def aCons (ma : M RV) (mr : M (List D)) : M (List D) := fun E => (ma E).bind fun a E1 => (mr E1).bind fun ds E2 => .ok (a.d :: ds) E2
def eIf (mt : M Bool) (ma mb : M RV) : M RV := fun E => (mt E).bind fun b E1 => if b then ma E1 else mb E1
section
variable {C : Ctx} {B : Base} {W : WX} {X : Cx} {pos : Pos} {a b : Expr} {ma mb : M RV}
theorem kE_new {F F1 H1 : Hp} {E1 : Ev} {σ : St} {Q : VK} {o : Option RV} (S1 : Sim C B F1 H1 E1 σ) (st : Same F F1) (p : Post C B W F1 σ (kE C B F σ Q) (liftO o E1)) :
    ∃ R, o = some R ∧ ∀ v F' H', Grow NoB F1 H1 F' H' → NewR C F' H1 H' R v → Q v H' := by
  cases o with
  | none => exact p.elim
  | some R =>
    refine ⟨R, rfl, fun v F' H' g n => ?_⟩
    obtain ⟨S2, rr⟩ := S1.newR g n
    exact p v F' H' S2 (st.trans g.fs) rr
theorem pe_c {d : D} {v : V} (h : PE X a (tC v)) (r : ∀ F, Rep C F v d) : PE X a (tE C B W (eC d)) := PE.imp h fun σ H Q ⟨F, E, S, p⟩ => p v F H S (Same.refl F) (r F)
theorem me_int {i j} : PE X (.Constant (.int i) j pos) (tE C B W (eC (.int i))) := pe_c pe_int fun _ => .int i
theorem me_bl {i j} : PE X (.Constant (.bool i) j pos) (tE C B W (eC (.bl i))) := pe_c pe_bl fun _ => .bl i
theorem me_non {j} : PE X (.Constant .none j pos) (tE C B W (eC .non)) := pe_c pe_non fun _ => .non
theorem me_str {x j} : PE X (.Constant (.str x) j pos) (tE C B W (eC (.str x))) := pe_c pe_str fun _ => .str x
/-- a def or a class of the text as a value -/
theorem me_gl {x : Str} (n : Nat) (hg : Gl X x) (hm : X.mg x = some (.ref (C.fa n))) (hd : (x == ("__debug__" : Str)) = false := by decide) : PE X (.Name x pos) (tE C B W (eC (.gl n))) := pe_c (pe_glob (v := .ref (C.fa n)) hg hm rfl hd) fun _ => .gl n
theorem me_ty {x : Str} (s : Ty) (hg : Gl X x) (hm : X.mg x = none) (hv : bootBuiltins x = some (.type s.name)) (hn : x ≠ "__name__" := by decide) (hd : (x == ("__debug__" : Str)) = false := by decide) : PE X (.Name x pos) (tE C B W (eC (.ty s))) :=
  pe_c (pe_bltn hg hm hv (v := .ty s.name) rfl hn hd) fun _ => .ty s
theorem me_var (i : Nat) {x : Str} (hN : X.N[i]? = some x := by rfl) (hv : Vis X.env.scope x := by first | exact Or.inl rfl | exact Or.inr (Or.inl rfl) | exact Or.inr (Or.inr rfl)) (hd : (x == ("__debug__" : Str)) = false := by decide)
    (hcd : (x == ("__classdict__" : Str)) = false := by decide) : PE X (.Name x pos) (tE C B W (eV i)) := by
  refine PE.imp (pe_var hN hv hd hcd) fun σ H Q ⟨F, E, S, p⟩ => ?_
  unfold eV at p
  cases e : E[i]? with
  | none => rw [e] at p; exact p.elim
  | some s =>
    rw [e] at p
    cases s with
    | un => exact p.elim
    | bo d => exact p.elim
    | sh d =>
      obtain ⟨v, h1, h2⟩ := S.sl i _ e
      exact ⟨v, h1, p v F H S (Same.refl F) h2⟩
    | ow d =>
      obtain ⟨F', a', S', st, h1, h2⟩ := S.freezeAt e
      exact ⟨_, h1, p _ F' H S' st h2⟩
theorem me_e1 {op : UnaryOp} {r : V → Hp → VK → Prop} {f : D → Option RV} (ho : UnR X (unaryOp op) r) (pr : Pure1 C r f) (ha : PE X a (tE C B W ma)) : PE X (.UnaryOp op a pos) (tE C B W (e1 f ma)) := by
  refine PE.imp (pe_un ho ha) fun σ H Q ⟨F, E, S, p⟩ => ?_
  refine tE_go S p fun ra E1 x F1 H1 S1 st1 r1 p1 => ?_
  obtain ⟨R, e, q⟩ := kE_new S1 st1 p1
  exact pr F1 H1 x ra.d R Q S1.fh r1 e q
theorem tE_2 {f : D → D → Option RV} {r : R2} (pr : Pure2 C r f) : ∀ σ H Q, tE C B W (e2 f ma mb) σ H Q → tOp r (tE C B W ma) (tE C B W mb) σ H Q := fun σ H Q ⟨F, E, S, p⟩ => by
  refine tE_go S p fun ra E1 x F1 H1 S1 st1 r1 p1 => ?_
  refine tE_go S1 p1 fun rb E2 y F2 H2 S2 st2 r2 p2 => ?_
  obtain ⟨R, e, q⟩ := kE_new S2 (st1.trans st2) p2
  exact pr F2 H2 x y ra.d rb.d R Q S2.fh (r1.mono st2) r2 e q
theorem me_op {op : Operator} {r : R2} {f : D → D → Option RV} (ho : OpR X (binaryOp op) r) (pr : Pure2 C r f) (ha : PE X a (tE C B W ma)) (hb : PE X b (tE C B W mb)) : PE X (.BinOp a op b pos) (tE C B W (e2 f ma mb)) :=
  PE.imp (pe_op ho ha hb) (tE_2 pr)
theorem me_ix {r : R2} {f : D → D → Option RV} (ho : IxR X r) (pr : Pure2 C r f) (ha : PE X a (tE C B W ma)) (hb : PE X b (tE C B W mb)) (hs : PlainIx b) : PE X (.Subscript a b pos) (tE C B W (e2 f ma mb)) :=
  PE.imp (pe_ix ho ha hb hs) (tE_2 pr)
def cmp (g : D → D → Option Bool) (a b : D) : Option RV := (g a b).map fun k => .sh (.bl k)
def PureC (C : Ctx) (r : R2) (g : D → D → Option Bool) : Prop := ∀ (F H : Hp) (x y : V) (dx dy : D) (k : Bool) (Q : VK), Same F H → Rep C F x dx → Rep C F y dy → g dx dy = some k → Q (.bl k) H → r x y H Q
theorem PureC.p2 {r : R2} {g : D → D → Option Bool} (h : PureC C r g) : Pure2 C r (cmp g) := by
  intro F H x y dx dy R Q st rx ry e q
  unfold cmp at e
  cases hg : g dx dy with
  | none => rw [hg] at e; cases e
  | some k =>
    rw [hg] at e; cases e
    exact h F H x y dx dy k Q st rx ry hg (NewR.same st (.bl k) q)
theorem me_cmp {op : CmpOp} {r : R2} {g : D → D → Option Bool} (ho : OpR X (compareOp op) r) (pr : PureC C r g) (ha : PE X a (tE C B W ma)) (hb : PE X b (tE C B W mb)) (hm : behindInMarks op b = false) : PE X (.Compare a [op] [b] pos) (tE C B W (e2 (cmp g) ma mb)) :=
  PE.imp (pe_cmpR ho ha hb hm) (tE_2 pr.p2)
def t2 (g : D → D → Option Bool) (ma mb : M RV) : M Bool := fun E => (ma E).bind fun a E1 => (mb E1).bind fun b E2 => match g a.d b.d with
  | some k => .ok k E2
  | none => .stuck
theorem mt_cmp {op : CmpOp} {r : R2} {g : D → D → Option Bool} (ho : OpR X (compareOp op) r) (pr : PureC C r g) (ha : PE X a (tE C B W ma)) (hb : PE X b (tE C B W mb)) (hm : behindInMarks op b = false) : PT X (.Compare a [op] [b] pos) (tT C B W (t2 g ma mb)) := by
  refine PT.imp (pt_cmpR ho ha hb hm) fun σ H Q ⟨F, E, S, p⟩ => ?_
  refine tE_go S p fun ra E1 x F1 H1 S1 st1 r1 p1 => ?_
  refine tE_go S1 p1 fun rb E2 y F2 H2 S2 st2 r2 p2 => ?_
  cases hg : g ra.d rb.d with
  | none => rw [hg] at p2; exact p2.elim
  | some k =>
    rw [hg] at p2
    exact pr F2 H2 x y ra.d rb.d k _ S2.fh (r1.mono st2) r2 hg ⟨k, rfl, p2 F2 H2 S2 (st1.trans st2)⟩
/-- truth -/
def truD : D → Option Bool
  | .non => some false
  | .bl b => some b
  | .int i => some (i != 0)
  | .str y => if y.length ≤ sizeLine then some ((y.length : Int) != 0) else none
  | .lst xs => some (!xs.isEmpty)
  | .tup xs => some (!xs.isEmpty)
  | _ => none
def tV (ma : M RV) : M Bool := fun E => (ma E).bind fun a E1 => match truD a.d with
  | some k => .ok k E1
  | none => .stuck
theorem isEmptyL {F : Hp} {vs : List V} {ds : List D} (r : RepL C F vs ds) : vs.isEmpty = ds.isEmpty := by cases r <;> rfl
theorem tru_of {F H : Hp} {x : V} {d : D} {k : Bool} (hK : X.K = C.K) (st : Same F H) (r : Rep C F x d) (h : truD d = some k) : TruV X.K x H k := by
  cases r with
  | non => cases h; rfl
  | bl b => cases h; rfl
  | int i => cases h; rfl
  | str x =>
    have h : (if x.length ≤ sizeLine then some ((x.length : Int) != 0) else none) = some k := h
    split at h
    · rename_i hl; cases h; exact ⟨hl, rfl⟩
    · cases h
  | gl n => cases h
  | ty s => cases h
  | tup hs hr => cases h; rw [hK]; exact .inr (.inl ⟨_, SqT_mono st hs, by rw [isEmptyL hr]⟩)
  | lst hs hr => cases h; rw [hK]; exact .inl ⟨_, SqL.of (st _ _ hs), by rw [isEmptyL hr]⟩
  | scr hs hr => cases h
  | obj _ _ => cases h
  | dicK _ _ => cases h
  | dicT _ _ => cases h
theorem mt_v (hK : X.K = C.K) (ha : PE X a (tE C B W ma)) (he : ∀ whole, isTrue a X.env whole = (do let v ← whole; standAt a.pos; holding [v] (truthy v)) := by intro _; rfl) : PT X a (tT C B W (tV ma)) := by
  refine PT.imp (pt_truth ha he) fun σ H Q ⟨F, E, S, p⟩ => ?_
  refine tE_go S p fun ra E1 x F1 H1 S1 st1 r1 p1 => ?_
  cases hg : truD ra.d with
  | none => rw [hg] at p1; exact p1.elim
  | some k => rw [hg] at p1; exact ⟨k, tru_of hK S1.fh r1 hg, p1 F1 H1 S1 st1⟩
/-! ### and, or, not -/
def tAnd (ta tb : M Bool) : M Bool := fun E => (ta E).bind fun c E1 => if c = true then tb E1 else .ok false E1
def tOr (ta tb : M Bool) : M Bool := fun E => (ta E).bind fun c E1 => if c = true then .ok true E1 else tb E1
def tNot (ta : M Bool) : M Bool := fun E => (ta E).bind fun c E1 => .ok (!c) E1
theorem tT_go {ta : M Bool} {α : Type} {K : α → Ev → Prop} {f : Bool → Ev → Out α} {Q : Bool → Hp → Prop} {F H : Hp} {E : Ev} {σ : St} (S : Sim C B F H E σ) (p : Post C B W F σ K ((ta E).bind f))
    (h : ∀ (k : Bool) (E1 : Ev) (F1 H1 : Hp), Sim C B F1 H1 E1 σ → Same F F1 → Post C B W F1 σ K (f k E1) → Q k H1) : tT C B W ta σ H Q :=
  ⟨F, E, S, p.bind.mono (Same.refl F) fun k E1 q F1 H1 S1 st => h k E1 F1 H1 S1 st (q.mono st fun _ _ z => z)⟩
variable {ta tb : M Bool} {rest : List Expr}
theorem mw_1 (ha : PT X a (tT C B W ta)) : PW X (.BoolOp .And [a] pos) (tT C B W ta) := pw_and1 ha
theorem mw_o1 (ha : PT X a (tT C B W ta)) : PW X (.BoolOp .Or [a] pos) (tT C B W ta) := pw_or1 ha
theorem mw_and (ha : PT X a (tT C B W ta)) (hb : PW X (.BoolOp .And (b :: rest) pos) (tT C B W tb)) : PW X (.BoolOp .And (a :: b :: rest) pos) (tT C B W (tAnd ta tb)) := by
  refine PW.imp (pw_and ha hb) fun σ H Q ⟨F, E, S, p⟩ => ?_
  refine tT_go S p fun k E1 F1 H1 S1 st1 p1 => ?_
  cases k with
  | true => exact ⟨F1, E1, S1, p1.mono (Same.refl F1) fun c E2 z F2 H2 S2 st2 => z F2 H2 S2 (st1.trans st2)⟩
  | false => exact p1 F1 H1 S1 st1
theorem mw_or (ha : PT X a (tT C B W ta)) (hb : PW X (.BoolOp .Or (b :: rest) pos) (tT C B W tb)) : PW X (.BoolOp .Or (a :: b :: rest) pos) (tT C B W (tOr ta tb)) := by
  refine PW.imp (pw_or ha hb) fun σ H Q ⟨F, E, S, p⟩ => ?_
  refine tT_go S p fun k E1 F1 H1 S1 st1 p1 => ?_
  cases k with
  | false => exact ⟨F1, E1, S1, p1.mono (Same.refl F1) fun c E2 z F2 H2 S2 st2 => z F2 H2 S2 (st1.trans st2)⟩
  | true => exact p1 F1 H1 S1 st1
theorem mt_not (ha : PT X a (tT C B W ta)) : PT X (.UnaryOp .Not a pos) (tT C B W (tNot ta)) := by
  refine PT.imp (pt_not ha) fun σ H Q ⟨F, E, S, p⟩ => ?_
  exact tT_go S p fun k E1 F1 H1 S1 st1 p1 => p1 F1 H1 S1 st1
theorem me_if {c : Expr} (hc : PT X c (tT C B W ta)) (ha : PE X a (tE C B W ma)) (hb : PE X b (tE C B W mb)) : PE X (.IfExp c a b pos) (tE C B W (eIf ta ma mb)) := by
  refine PE.imp (pe_ifExp hc ha hb) fun σ H Q ⟨F, E, S, p⟩ => ?_
  refine tT_go S p fun k E1 F1 H1 S1 st1 p1 => ?_
  have go : ∀ m : M RV, Post C B W F1 σ (kE C B F σ Q) (m E1) → tE C B W m σ H1 Q := fun m p => ⟨F1, E1, S1, p.mono (Same.refl F1) fun c E2 z v F2 H2 S2 st2 r => z v F2 H2 S2 (st1.trans st2) r⟩
  cases k with
  | true => exact go _ p1
  | false => exact go _ p1
/-- as values: all but the last True or False -/
def eAnd (ma mb : M RV) : M RV := fun E => (ma E).bind fun a E1 => match a.d with
  | .bl true => mb E1
  | .bl false => .ok (.sh (.bl false)) E1
  | _ => .stuck
def eOr (ma mb : M RV) : M RV := fun E => (ma E).bind fun a E1 => match a.d with
  | .bl false => mb E1
  | .bl true => .ok (.sh (.bl true)) E1
  | _ => .stuck
def eNot (ma : M RV) : M RV := fun E => (ma E).bind fun a E1 => match a.d with
  | .bl k => .ok (.sh (.bl (!k))) E1
  | _ => .stuck
theorem tE_up {m : M RV} {F F1 H1 : Hp} {E1 : Ev} {σ : St} {Q : VK} (S1 : Sim C B F1 H1 E1 σ) (st1 : Same F F1) (p : Post C B W F1 σ (kE C B F σ Q) (m E1)) : tE C B W m σ H1 Q :=
  ⟨F1, E1, S1, p.mono (Same.refl F1) fun c E2 z v F2 H2 S2 st2 r => z v F2 H2 S2 (st1.trans st2) r⟩
theorem me_one {op} {m : M RV} (h : PE X a (tE C B W m)) : PE X (.BoolOp op [a] pos) (tE C B W m) := pe_one h
theorem me_and (ha : PE X a (tE C B W ma)) (hb : PE X (.BoolOp .And (b :: rest) pos) (tE C B W mb)) : PE X (.BoolOp .And (a :: b :: rest) pos) (tE C B W (eAnd ma mb)) := by
  refine PE.imp (pe_and ha hb) fun σ H Q ⟨F, E, S, p⟩ => ?_
  refine tE_go S p fun r E1 v F1 H1 S1 st1 r1 p1 => ?_
  cases hd : r.d with
  | bl k =>
    rw [hd] at r1 p1
    cases r1
    refine ⟨k, rfl, ?_⟩
    cases k with
    | true => exact tE_up S1 st1 p1
    | false => exact p1 _ F1 H1 S1 st1 (.bl false)
  | _ => rw [hd] at p1; exact p1.elim
theorem me_or (ha : PE X a (tE C B W ma)) (hb : PE X (.BoolOp .Or (b :: rest) pos) (tE C B W mb)) : PE X (.BoolOp .Or (a :: b :: rest) pos) (tE C B W (eOr ma mb)) := by
  refine PE.imp (pe_or ha hb) fun σ H Q ⟨F, E, S, p⟩ => ?_
  refine tE_go S p fun r E1 v F1 H1 S1 st1 r1 p1 => ?_
  cases hd : r.d with
  | bl k =>
    rw [hd] at r1 p1
    cases r1
    refine ⟨k, rfl, ?_⟩
    cases k with
    | false => exact tE_up S1 st1 p1
    | true => exact p1 _ F1 H1 S1 st1 (.bl true)
  | _ => rw [hd] at p1; exact p1.elim
theorem me_not (ha : PE X a (tE C B W ma)) : PE X (.UnaryOp .Not a pos) (tE C B W (eNot ma)) := by
  refine PE.imp (pe_not ha) fun σ H Q ⟨F, E, S, p⟩ => ?_
  refine tE_go S p fun r E1 v F1 H1 S1 st1 r1 p1 => ?_
  cases hd : r.d with
  | bl k =>
    rw [hd] at r1 p1
    cases r1
    exact ⟨k, rfl, p1 _ F1 H1 S1 st1 (.bl _)⟩
  | _ => rw [hd] at p1; exact p1.elim
/-- a op b op c -/
def eChain (g g' : D → D → Option Bool) (ma mb mc : M RV) : M RV := fun E => (ma E).bind fun a E1 => (mb E1).bind fun b E2 => match g a.d b.d with
  | some true => (mc E2).bind fun c E3 => liftO (cmp g' b.d c.d) E3
  | some false => .ok (.sh (.bl false)) E2
  | none => .stuck
def tChain (g g' : D → D → Option Bool) (ma mb mc : M RV) : M Bool := fun E => (ma E).bind fun a E1 => (mb E1).bind fun b E2 => match g a.d b.d with
  | some true => (mc E2).bind fun c E3 => match g' b.d c.d with
    | some k => .ok k E3
    | none => .stuck
  | some false => .ok false E2
  | none => .stuck
theorem me_chain {c : Expr} {mc : M RV} {op op' : CmpOp} {r r' : R2} {g g' : D → D → Option Bool} (ho : OpR X (compareOp op) r) (ho' : OpR X (compareOp op') r') (pr : PureC C r g) (pr' : PureC C r' g') (ha : PE X a (tE C B W ma)) (hb : PE X b (tE C B W mb)) (hc : PE X c (tE C B W mc))
    (hm : lastMarks [op, op'] [b, c] = false := by with_unfolding_all rfl) : PE X (.Compare a [op, op'] [b, c] pos) (tE C B W (eChain g g' ma mb mc)) := by
  refine PE.imp (pe_chain ho ho' ha hb hc hm) fun σ H Q ⟨F, E, S, p⟩ => ?_
  refine tE_go S p fun ra E1 x F1 H1 S1 st1 r1 p1 => ?_
  refine tE_go S1 p1 fun rb E2 y F2 H2 S2 st2 r2 p2 => ?_
  cases hg : g ra.d rb.d with
  | none => rw [hg] at p2; exact p2.elim
  | some k =>
    rw [hg] at p2
    refine pr F2 H2 x y ra.d rb.d k _ S2.fh (r1.mono st2) r2 hg ⟨k, rfl, ?_⟩
    cases k with
    | false => exact p2 _ F2 H2 S2 (st1.trans st2) (.bl false)
    | true =>
      refine tE_go S2 p2 fun rc E3 z F3 H3 S3 st3 r3 p3 => ?_
      obtain ⟨R, e, q⟩ := kE_new S3 (st1.trans (st2.trans st3)) p3
      exact pr'.p2 F3 H3 y z rb.d rc.d R Q S3.fh (r2.mono st3) r3 e q
theorem mt_chain {c : Expr} {mc : M RV} {op op' : CmpOp} {r r' : R2} {g g' : D → D → Option Bool} (ho : OpR X (compareOp op) r) (ho' : OpR X (compareOp op') r') (pr : PureC C r g) (pr' : PureC C r' g') (ha : PE X a (tE C B W ma)) (hb : PE X b (tE C B W mb)) (hc : PE X c (tE C B W mc))
    (hm : lastMarks [op, op'] [b, c] = false := by with_unfolding_all rfl) : PT X (.Compare a [op, op'] [b, c] pos) (tT C B W (tChain g g' ma mb mc)) := by
  refine PT.imp (pt_chain ho ho' ha hb hc hm) fun σ H Q ⟨F, E, S, p⟩ => ?_
  refine tE_go S p fun ra E1 x F1 H1 S1 st1 r1 p1 => ?_
  refine tE_go S1 p1 fun rb E2 y F2 H2 S2 st2 r2 p2 => ?_
  cases hg : g ra.d rb.d with
  | none => rw [hg] at p2; exact p2.elim
  | some k =>
    rw [hg] at p2
    refine pr F2 H2 x y ra.d rb.d k _ S2.fh (r1.mono st2) r2 hg ⟨k, rfl, ?_⟩
    cases k with
    | false => exact ⟨false, rfl, p2 F2 H2 S2 (st1.trans st2)⟩
    | true =>
      refine tE_go S2 p2 fun rc E3 z F3 H3 S3 st3 r3 p3 => ?_
      cases hg' : g' rb.d rc.d with
      | none => rw [hg'] at p3; exact p3.elim
      | some k' =>
        rw [hg'] at p3
        exact pr' F3 H3 y z rb.d rc.d k' _ S3.fh (r2.mono st3) r3 hg' ⟨k', rfl, p3 F3 H3 S3 (st1.trans (st2.trans st3))⟩
/-! ### arguments, displays -/
variable {es : List Expr} {mr : M (List D)}
theorem ma_nil : PA X [] (tA C B W aNil) := PA.imp pa_nil fun σ H Q ⟨F, E, S, p⟩ => p [] F H S (Same.refl F) .nil
theorem tA_go {ms : M (List D)} {α : Type} {K : α → Ev → Prop} {f : List D → Ev → Out α} {Q : List V → Hp → Prop} {F H : Hp} {E : Ev} {σ : St} (S : Sim C B F H E σ) (p : Post C B W F σ K ((ms E).bind f))
    (h : ∀ (ds : List D) (E1 : Ev) (vs : List V) (F1 H1 : Hp), Sim C B F1 H1 E1 σ → Same F F1 → RepL C F1 vs ds → Post C B W F1 σ K (f ds E1) → Q vs H1) : tA C B W ms σ H Q :=
  ⟨F, E, S, p.bind.mono (Same.refl F) fun ds E1 q vs F1 H1 S1 st r => h ds E1 vs F1 H1 S1 st r (q.mono st fun _ _ z => z)⟩
theorem ma_cons (ha : PE X a (tE C B W ma)) (hr : PA X es (tA C B W mr)) (hs : starEach (a :: es) X.env = (false, eval a X.env) :: starEach es X.env := by rfl) : PA X (a :: es) (tA C B W (aCons ma mr)) := by
  refine PA.imp (pa_cons ha hr hs) fun σ H Q ⟨F, E, S, p⟩ => ?_
  refine tE_go S p fun ra E1 x F1 H1 S1 st1 r1 p1 => ?_
  refine tA_go S1 p1 fun ds E2 vs F2 H2 S2 st2 r2 p2 => ?_
  exact p2 (x :: vs) F2 H2 S2 (st1.trans st2) (.cons (r1.mono st2) r2)
def fTup (ds : List D) : Option RV := if ds.length ≤ sizeLine then some (.sh (.tup ds)) else none
def fLst (ds : List D) : Option RV := if ds.length ≤ sizeLine then some (.fr (.lst ds)) else none
theorem me_tup {k} (h : PA X es (tA C B W mr)) : PE X (.Tuple es k pos) (tE C B W (eN fTup mr)) := by
  refine PE.imp (pe_tup h) fun σ H Q ⟨F, E, S, p⟩ => ?_
  refine tA_go S p fun ds E1 vs F1 H1 S1 st1 r1 p1 => ?_
  obtain ⟨R, e, q⟩ := kE_new S1 st1 p1
  unfold fTup at e
  split at e
  · rename_i hl; cases e
    refine ⟨by rw [r1.length]; exact hl, fun p' hp => ?_⟩
    obtain ⟨g, n⟩ := newT S1.fh r1 hp
    exact q _ _ _ g n
  · cases e
theorem me_lst (h : PA X es (tA C B W mr)) : PE X (.List es pos) (tE C B W (eN fLst mr)) := by
  refine PE.imp (pe_lst h) fun σ H Q ⟨F, E, S, p⟩ => ?_
  refine tA_go S p fun ds E1 vs F1 H1 S1 st1 r1 p1 => ?_
  obtain ⟨R, e, q⟩ := kE_new S1 st1 p1
  unfold fLst at e
  split at e
  · rename_i hl; cases e
    refine ⟨by rw [r1.length]; exact hl, fun p' hp => ?_⟩
    obtain ⟨g, n⟩ := newL S1.fh r1 hp
    exact q _ _ _ g n
  · cases e
/-! ### calls of built-ins -/
theorem tE_N {f : List D → Option RV} {r : List V → Hp → VK → Prop} (pr : PureN C r f) : ∀ σ H Q, tE C B W (eN f mr) σ H Q → tCB r (tA C B W mr) σ H Q := fun σ H Q ⟨F, E, S, p⟩ => by
  refine tA_go S p fun ds E1 vs F1 H1 S1 st1 r1 p1 => ?_
  obtain ⟨R, e, q⟩ := kE_new S1 st1 p1
  exact pr F1 H1 vs ds R Q S1.fh r1 e q
variable {x : Str} {p : Pos} {id T : String} {e : Expr}
theorem me_callB {r : List V → Hp → VK → Prop} {f : List D → Option RV} (hc : CallR X (.builtin id) r) (pr : PureN C r f) (hg : Gl X x) (hm : X.mg x = none) (hv : bootBuiltins x = some (.builtin id)) (ha : PA X (e :: es) (tA C B W mr)) (hn : x ≠ "__name__" := by decide) (hdb : (x == ("__debug__" : Str)) = false := by decide)
    (he : starEach (e :: es) X.env = (false, eval e X.env) :: starEach es X.env := by rfl) (hpl : (backTo pos (starEach es X.env)).any (·.1) = false := by rfl) : PE X (.Call (.Name x p) (e :: es) [] pos) (tE C B W (eN f mr)) :=
  PE.imp (pe_callB hc hg hm hv ha hn hdb he hpl) (tE_N pr)
theorem me_callTy {r : List V → Hp → VK → Prop} {f : List D → Option RV} (hc : CallR X (.type T) r) (pr : PureN C r f) (hg : Gl X x) (hm : X.mg x = none) (hv : bootBuiltins x = some (.type T)) (ha : PA X (e :: es) (tA C B W mr)) (hn : x ≠ "__name__" := by decide) (hdb : (x == ("__debug__" : Str)) = false := by decide)
    (he : starEach (e :: es) X.env = (false, eval e X.env) :: starEach es X.env := by rfl) (hpl : (backTo pos (starEach es X.env)).any (·.1) = false := by rfl) : PE X (.Call (.Name x p) (e :: es) [] pos) (tE C B W (eN f mr)) :=
  PE.imp (pe_callTy hc hg hm hv ha hn hdb he hpl) (tE_N pr)
end
end MM

/-! MM: statements, loops, calls. -/
namespace MM
open PySem PySem.Spec PyProof.Rows L2

inductive Fl where
  | nx | rt (r : RV) | bk | ct
def kS (C : Ctx) (B : Base) (F : Hp) (D : Ends) : Fl → Ev → Prop
  | .nx, E => ∀ σ F' H', Sim C B F' H' E σ → Same F F' → D.nx σ H'
  | .rt r, E => ∀ σ v F' H', Sim C B F' H' E σ → Same F F' → RepR C B F' H' E σ r v → D.rt v H'
  | .bk, E => ∀ σ F' H', Sim C B F' H' E σ → Same F F' → D.bk σ H'
  | .ct, E => ∀ σ F' H', Sim C B F' H' E σ → Same F F' → D.ct σ H'
def PostS {α : Type} (C : Ctx) (B : Base) (W : WX) (F : Hp) (K : α → Ev → Prop) : Out α → Prop
  | .ok a E => K a E
  | .ex x E => ∀ σ cls d F' H', Sim C B F' H' E σ → Same F F' → RepX C F' x cls d → W cls d σ H'
  | .stuck => False
def tS (C : Ctx) (B : Base) (W : WX) (m : M Fl) : TS := fun D σ H => ∃ F E, Sim C B F H E σ ∧ PostS C B W F (kS C B F D) (m E)
abbrev Tgt := D → Ev → Option Ev
abbrev Tgts := List D → Ev → Option Ev
/-- what a target may set: the slots js -/
def Upto (js : List Nat) (σ σ' : St) : Prop := σ'.length = σ.length ∧ ∀ j, j ∉ js → σ'[j]? = σ[j]?
def tG (C : Ctx) (B : Base) (js : List Nat) (g : Tgt) : TG := fun v σ H Q => ∃ F E d E', Sim C B F H E σ ∧ Rep C F v d ∧ g d E = some E' ∧ ∀ σ' F' H', Sim C B F' H' E' σ' → Same F F' → Upto js σ σ' → Q σ' H'
def tGs (C : Ctx) (B : Base) (js : List Nat) (g : Tgts) : TGs := fun vs σ H Q => ∃ F E ds E', Sim C B F H E σ ∧ RepL C F vs ds ∧ g ds E = some E' ∧ ∀ σ' F' H', Sim C B F' H' E' σ' → Same F F' → Upto js σ σ' → Q σ' H'
theorem Upto.refl (js : List Nat) (σ : St) : Upto js σ σ := ⟨rfl, fun _ _ => rfl⟩
theorem Upto.trans {js js' : List Nat} {σ σ' σ'' : St} (a : Upto js σ σ') (b : Upto js' σ' σ'') : Upto (js ++ js') σ σ'' :=
  ⟨b.1.trans a.1, fun j h => by
    simp only [List.mem_append, not_or] at h
    rw [b.2 j h.2, a.2 j h.1]⟩
section
variable {C : Ctx} {B : Base} {W : WX} {F F' H H' : Hp} {E E' : Ev} {σ : St}
theorem PostS.mono {α : Type} {K K' : α → Ev → Prop} {o : Out α} (p : PostS C B W F K o) (st : Same F F') (h : ∀ a E, K a E → K' a E) : PostS C B W F' K' o := by
  cases o with
  | ok a E => exact h a E p
  | ex x E => exact fun σ cls d F1 H1 S s1 => p σ cls d F1 H1 S (st.trans s1)
  | stuck => exact p
theorem PostS.bind {α β : Type} {K : β → Ev → Prop} {o : Out α} {f : α → Ev → Out β} (p : PostS C B W F K (o.bind f)) : PostS C B W F (fun a E => PostS C B W F K (f a E)) o := by
  cases o with
  | ok a E => exact p
  | ex x E => exact p
  | stuck => exact p
theorem PostS.e {α : Type} {K K' : α → Ev → Prop} {o : Out α} (p : PostS C B W F K o) (h : ∀ a E, K a E → K' a E) : Post C B W F σ K' o := by
  cases o with
  | ok a E => exact h a E p
  | ex x E => exact fun cls d F1 H1 S s1 => p σ cls d F1 H1 S s1
  | stuck => exact p
theorem kS.mono {D : Ends} {f : Fl} (p : kS C B F D f E) (st : Same F F') : kS C B F' D f E := by
  cases f with
  | nx => exact fun σ F1 H1 S s1 => p σ F1 H1 S (st.trans s1)
  | rt r => exact fun σ v F1 H1 S s1 => p σ v F1 H1 S (st.trans s1)
  | bk => exact fun σ F1 H1 S s1 => p σ F1 H1 S (st.trans s1)
  | ct => exact fun σ F1 H1 S s1 => p σ F1 H1 S (st.trans s1)
/-- an expression within a statement -/
theorem sE_go {m : M RV} {α : Type} {K : α → Ev → Prop} {f : RV → Ev → Out α} {Q : VK} (S : Sim C B F H E σ) (p : PostS C B W F K ((m E).bind f))
    (h : ∀ (r : RV) (E1 : Ev) (v : V) (F1 H1 : Hp), Sim C B F1 H1 E1 σ → Same F F1 → RepR C B F1 H1 E1 σ r v → PostS C B W F1 K (f r E1) → Q v H1) : tE C B W m σ H Q :=
  ⟨F, E, S, p.bind.e fun r E1 q v F1 H1 S1 st rr => h r E1 v F1 H1 S1 st rr (q.mono st fun _ _ z => z)⟩
theorem sT_go {m : M Bool} {α : Type} {K : α → Ev → Prop} {f : Bool → Ev → Out α} {Q : Bool → Hp → Prop} (S : Sim C B F H E σ) (p : PostS C B W F K ((m E).bind f))
    (h : ∀ (k : Bool) (E1 : Ev) (F1 H1 : Hp), Sim C B F1 H1 E1 σ → Same F F1 → PostS C B W F1 K (f k E1) → Q k H1) : tT C B W m σ H Q :=
  ⟨F, E, S, p.bind.e fun r E1 q F1 H1 S1 st => h r E1 F1 H1 S1 st (q.mono st fun _ _ z => z)⟩
theorem sA_go {m : M (List D)} {α : Type} {K : α → Ev → Prop} {f : List D → Ev → Out α} {Q : List V → Hp → Prop} (S : Sim C B F H E σ) (p : PostS C B W F K ((m E).bind f))
    (h : ∀ (ds : List D) (E1 : Ev) (vs : List V) (F1 H1 : Hp), Sim C B F1 H1 E1 σ → Same F F1 → RepL C F1 vs ds → PostS C B W F1 K (f ds E1) → Q vs H1) : tA C B W m σ H Q :=
  ⟨F, E, S, p.bind.e fun ds E1 q vs F1 H1 S1 st r => h ds E1 vs F1 H1 S1 st r (q.mono st fun _ _ z => z)⟩
theorem tS_up {m : M Fl} {D : Ends} {F1 H1 : Hp} {E1 : Ev} (S1 : Sim C B F1 H1 E1 σ) (st : Same F F1) (p : PostS C B W F1 (kS C B F D) (m E1)) : tS C B W m D σ H1 :=
  ⟨F1, E1, S1, p.mono (Same.refl F1) fun _ _ z => z.mono st⟩
end

/-! ### what a block does -/
def sNx : M Fl := fun E => .ok .nx E
def sSeq (m1 m2 : M Fl) : M Fl := fun E => (m1 E).bind fun f E1 => match f with
  | .nx => m2 E1
  | f => .ok f E1
def sDrop (m : M RV) : M Fl := fun E => (m E).bind fun _ E1 => .ok .nx E1
def sRet (m : M RV) : M Fl := fun E => (m E).bind fun r E1 => .ok (.rt r) E1
def sRetN : M Fl := fun E => .ok (.rt (.sh .non)) E
def sIf (mt : M Bool) (ma mb : M Fl) : M Fl := fun E => (mt E).bind fun b E1 => if b = true then ma E1 else mb E1
def sAsg (i : Nat) (m : M RV) : M Fl := fun E => (m E).bind fun r E1 => match r with
  | .sh d => .ok .nx (E1.set i (.sh d))
  | .fr d => .ok .nx (E1.set i (.ow d))
def goNx (o : Option Ev) : Out Fl := match o with
  | some E => .ok .nx E
  | none => .stuck
def sAsgG (g : Tgt) (m : M RV) : M Fl := fun E => (m E).bind fun r E1 => goNx (g r.d E1)
def sPar (i j : Nat) (m : M (List D)) : M Fl := fun E => (m E).bind fun ds E1 => match ds with
  | [a, b] => .ok .nx ((E1.set i (.sh a)).set j (.sh b))
  | _ => .stuck
def gNm (i : Nat) : Tgt := fun d E => some (E.set i (.sh d))
def gsNil : Tgts := fun ds E => match ds with
  | [] => some E
  | _ => none
def gsCons (g : Tgt) (gs : Tgts) : Tgts := fun ds E => match ds with
  | d :: r => (g d E).bind fun E1 => gs r E1
  | [] => none
def gTp (n : Nat) (gs : Tgts) : Tgt := fun d E => match d with
  | .tup ds => if ds.length = n then gs ds E else none
  | _ => none
def sAug (i : Nat) (f : D → D → Option RV) (m : M RV) : M Fl := fun E => match E[i]? with
  | some (.sh x) => (m E).bind fun r E1 => match f x r.d with
    | some (.sh d) => .ok .nx (E1.set i (.sh d))
    | some (.fr d) => .ok .nx (E1.set i (.ow d))
    | none => .stuck
  | _ => .stuck
def sRaise (x : Xc) : M Fl := fun E => .ex x E
section
variable {C : Ctx} {B : Base} {W : WX} {X : Cx} {pos : Pos} {a b : Expr} {ma mb : M RV} {st : Stmt} {rest : List Stmt} {m m2 : M Fl}
theorem ms_nil : PSs X [] (tS C B W sNx) := PSs.imp pss_nil fun D σ H ⟨F, E, S, p⟩ => p σ F H S (Same.refl F)
theorem ms_pass : PS X (.Pass pos) (tS C B W sNx) := PS.imp ps_pass fun D σ H ⟨F, E, S, p⟩ => p σ F H S (Same.refl F)
theorem ms_break : PS X (.Break pos) (tS C B W (fun E => .ok .bk E)) := PS.imp ps_break fun D σ H ⟨F, E, S, p⟩ => p σ F H S (Same.refl F)
theorem ms_continue : PS X (.Continue pos) (tS C B W (fun E => .ok .ct E)) := PS.imp ps_continue fun D σ H ⟨F, E, S, p⟩ => p σ F H S (Same.refl F)
theorem ms_cons (h1 : PS X st (tS C B W m)) (h2 : PSs X rest (tS C B W m2)) : PSs X (st :: rest) (tS C B W (sSeq m m2)) := by
  refine PSs.imp (pss_cons h1 h2) fun D σ H ⟨F, E, S, p⟩ => ?_
  refine ⟨F, E, S, p.bind.mono (Same.refl F) fun f E1 q => ?_⟩
  cases f with
  | nx => exact fun σ1 F1 H1 S1 st1 => tS_up S1 st1 (q.mono st1 fun _ _ z => z)
  | rt r => exact q
  | bk => exact q
  | ct => exact q
theorem ms_one (h1 : PS X st (tS C B W m)) : PSs X [st] (tS C B W m) := pss_one h1
theorem ms_expr (he : PE X a (tE C B W ma)) (hs : swapsWith a none pos.line X.env = pure false := by rfl) : PS X (.Expr a pos) (tS C B W (sDrop ma)) := by
  refine PS.imp (ps_expr he hs) fun D σ H ⟨F, E, S, p⟩ => ?_
  exact sE_go S p fun r E1 v F1 H1 S1 st1 rr p1 => p1 σ F1 H1 S1 st1
theorem ms_ret (he : PE X a (tE C B W ma)) : PS X (.Return (some a) pos) (tS C B W (sRet ma)) := by
  refine PS.imp (ps_ret he) fun D σ H ⟨F, E, S, p⟩ => ?_
  exact sE_go S p fun r E1 v F1 H1 S1 st1 rr p1 => p1 σ v F1 H1 S1 st1 rr
theorem ms_retN : PS X (.Return none pos) (tS C B W sRetN) := PS.imp ps_retN fun D σ H ⟨F, E, S, p⟩ => p σ .non F H S (Same.refl F) .non
theorem ms_if {c : Expr} {as bs : List Stmt} {mt : M Bool} (hc : PT X c (tT C B W mt)) (ha : PSs X as (tS C B W m)) (hb : PSs X bs (tS C B W m2)) : PS X (.If c as bs pos) (tS C B W (sIf mt m m2)) := by
  refine PS.imp (ps_if hc ha hb) fun D σ H ⟨F, E, S, p⟩ => ?_
  refine sT_go S p fun k E1 F1 H1 S1 st1 p1 => ?_
  cases k with
  | true => exact tS_up S1 st1 p1
  | false => exact tS_up S1 st1 p1
theorem setR {F H : Hp} {E : Ev} {σ : St} {r : RV} {v : V} (i : Nat) (S : Sim C B F H E σ) (rr : RepR C B F H E σ r v) : Sim C B F H (E.set i (match r with | .sh d => .sh d | .fr d => .ow d)) (σ.set i (some v)) := by
  cases r with
  | sh d => exact S.setSh i rr
  | fr d => obtain ⟨a, rfl, o, n, ap, pn⟩ := rr; exact S.setOw i o n ap pn
theorem ms_set {i : Nat} {x : Str} {pos' : Pos} (hN : X.N.Nodup) (hi : X.N[i]? = some x) (hx : Loc X.env.scope x) (he : PE X a (tE C B W ma)) (hs : swapsWith a (some (.Name x pos')) pos.line X.env = pure false := by rfl) (hf : X.fn x = true ∨ X.env.scope.names.lookup x = some .local := by first | exact .inl rfl | exact .inr rfl | assumption) :
    PS X (.Assign [.Name x pos'] a pos) (tS C B W (sAsg i ma)) := by
  refine PS.imp (ps_set hN hi hx he hs hf) fun D σ H ⟨F, E, S, p⟩ => ?_
  refine sE_go S p fun r E1 v F1 H1 S1 st1 rr p1 => ?_
  have q := setR i S1 rr
  cases r with
  | sh d => exact p1 _ F1 H1 q st1
  | fr d => exact p1 _ F1 H1 q st1
/-! ### targets -/
theorem mg_name {i : Nat} {x : Str} (hN : X.N.Nodup) (hi : X.N[i]? = some x) (hx : Loc X.env.scope x) (hf : X.fn x = true ∨ X.env.scope.names.lookup x = some .local := by first | exact .inl rfl | exact .inr rfl | assumption) : PG X (.Name x pos) (tG C B [i] (gNm i)) :=
  ⟨fun pins s σ H v u Q I r ⟨F, E, d, E', S, rd, e, p⟩ => by
    cases e
    exact (pg_name (pos := pos) hN hi hx hf).run pins s σ H v u Q I r (p _ F H (S.setSh i rd) (Same.refl F) ⟨List.length_set, fun j hj => List.getElem?_set_ne (fun z => hj (by simp [z]))⟩)⟩
theorem mgs_nil : PGs X [] (tGs C B [] gsNil) := ⟨fun pins s σ H vs us Q I r ⟨F, E, ds, E', S, rd, e, p⟩ => by
  refine pgs_nil.run pins s σ H vs us Q I r ?_
  cases rd with
  | nil => cases e; exact ⟨rfl, p σ F H S (Same.refl F) (Upto.refl _ _)⟩
  | cons _ _ => cases e⟩
theorem mgs_cons {e : Expr} {es : List Expr} {g : Tgt} {gs : Tgts} {js js' : List Nat} (h1 : PG X e (tG C B js g)) (h2 : PGs X es (tGs C B js' gs))
    (hs : (assignEach (e :: es) X.env).map (·.2) = assign e X.env :: (assignEach es X.env).map (·.2) := by rfl) : PGs X (e :: es) (tGs C B (js ++ js') (gsCons g gs)) := ⟨fun pins s σ H vs us Q I r ⟨F, E, ds, E', S, rd, e, p⟩ => by
  refine (pgs_cons h1 h2 hs).run pins s σ H vs us Q I r ?_
  cases rd with
  | nil => cases e
  | @cons v d vs ds r1 r2 =>
    have e : (g d E).bind (fun E1 => gs ds E1) = some E' := e
    obtain ⟨E1, e1, e2⟩ := Option.bind_eq_some_iff.mp e
    refine ⟨v, vs, rfl, F, E, d, E1, S, r1, e1, fun σ1 F1 H1 S1 st1 u1 => ?_⟩
    exact ⟨F1, E1, ds, E', S1, r2.mono st1, e2, fun σ2 F2 H2 S2 st2 u2 => p σ2 F2 H2 S2 (st1.trans st2) (u1.trans u2)⟩⟩
theorem mg_tup {es : List Expr} {k : Nat} {gs : Tgts} {js : List Nat} {n : Nat} (hK : X.K = C.K) (hc : X.calm = true) (h : PGs X es (tGs C B js gs))
    (hn : (assignEach es X.env).length = n := by rfl) (hst : (assignEach es X.env).findIdx? (·.1) = none := by rfl) : PG X (.Tuple es k pos) (tG C B js (gTp n gs)) :=
  ⟨fun pins s σ H v u Q I r ⟨F, E, d, E', S, rd, e, p⟩ => by
    refine (pg_tup (k := k) (pos := pos) hc h hn hst).run pins s σ H v u Q I r ?_
    cases rd with
    | @tup a vs ds hs hr =>
      have e : (if ds.length = n then gs ds E else none) = some E' := e
      split at e
      · rename_i hl
        exact ⟨a, vs, rfl, by rw [hK]; exact SqT_mono S.fh hs, by rw [hr.length]; exact hl, F, E, ds, E', S, hr, e, p⟩
      · cases e
    | _ => cases e⟩
theorem ms_asg {tg : Expr} {g : Tgt} {js : List Nat} (he : PE X a (tE C B W ma)) (hg : PG X tg (tG C B js g)) (hs : swapsWithSole [tg] a pos.line X.env = pure false := by rfl) (hw : swappedStores [tg] a X.env = pure none := by rfl)
    (h1 : (assignEach [tg] X.env).map (·.2) = [assign tg X.env] := by rfl) : PS X (.Assign [tg] a pos) (tS C B W (sAsgG g ma)) := by
  refine PS.imp (ps_asg he hg hs hw h1) fun D σ H ⟨F, E, S, p⟩ => ?_
  refine sE_go S p fun r E1 v F1 H1 S1 st1 rr p1 => ?_
  obtain ⟨F2, S2, st2, r2⟩ := S1.toSh rr
  cases hg : g r.d E1 with
  | none => rw [hg] at p1; exact p1.elim
  | some E2 =>
    rw [hg] at p1
    exact ⟨F2, E1, r.d, E2, S2, r2, hg, fun σ' F' H' S' st' _ => p1 σ' F' H' S' (st1.trans (st2.trans st'))⟩
theorem ms_par {i j : Nat} {x y : Str} {ms : M (List D)} {px py pt : Pos} {kt k2 pt2} (hc : X.calm = true) (hN : X.N.Nodup) (hi : X.N[i]? = some x) (hj : X.N[j]? = some y) (hij : i ≠ j)
    (hx : X.env.scope.names.lookup x = some .local) (hy : X.env.scope.names.lookup y = some .local) (ha : PA X [a, b] (tA C B W ms))
    (hw : swappedStores [.Tuple [.Name x px, .Name y py] kt pt] (.Tuple [a, b] k2 pt2) X.env = pure (some [x, y]))
    (hs : swapsWithSole [.Tuple [.Name x px, .Name y py] kt pt] (.Tuple [a, b] k2 pt2) pos.line X.env = pure false := by rfl) :
    PS X (.Assign [.Tuple [.Name x px, .Name y py] kt pt] (.Tuple [a, b] k2 pt2) pos) (tS C B W (sPar i j ms)) := by
  refine PS.imp (ps_par hc hN hi hj hij hx hy ha hw hs) fun D σ H ⟨F, E, S, p⟩ => ?_
  refine sA_go S p fun ds E1 vs F1 H1 S1 st1 rr p1 => ?_
  cases rr with
  | nil => exact p1.elim
  | cons r1 rr =>
    cases rr with
    | nil => exact p1.elim
    | cons r2 rr =>
      cases rr with
      | cons _ _ => exact p1.elim
      | nil => exact ⟨_, _, rfl, p1 _ F1 H1 ((S1.setSh i r1).setSh j r2) st1⟩
/-- in-place operators by values -/
def PureIp (C : Ctx) (r : TIp) (f : D → D → Option RV) : Prop := Pure2 C r f
theorem ms_aug {i : Nat} {x : Str} {op : Operator} {ti : TIp} {f : D → D → Option RV} {pos' : Pos} (hN : X.N.Nodup) (hi : X.N[i]? = some x) (hx : Loc X.env.scope x) (he : PE X a (tE C B W ma)) (ho : PIp X op ti) (pr : Pure2 C ti f) (hf : X.fn x = true ∨ X.env.scope.names.lookup x = some .local := by first | exact .inl rfl | exact .inr rfl | assumption) :
    PS X (.AugAssign (.Name x pos') op a pos) (tS C B W (sAug i f ma)) := by
  refine PS.imp (ps_aug hN hi hx he ho hf) fun D σ H ⟨F, E, S, p⟩ => ?_
  unfold sAug at p
  cases e : E[i]? with
  | none => rw [e] at p; exact p.elim
  | some s =>
    rw [e] at p
    cases s with
    | sh d =>
      obtain ⟨v, h1, h2⟩ := S.sl i _ e
      refine ⟨v, h1, ?_⟩
      refine sE_go S p fun r E1 w F1 H1 S1 st1 rr p1 => ?_
      obtain ⟨F2, S2, st2, r2⟩ := S1.toSh rr
      cases hf : f d r.d with
      | none => rw [hf] at p1; exact p1.elim
      | some R =>
        rw [hf] at p1
        refine pr F2 H1 v w d r.d R _ S2.fh (h2.mono (st1.trans st2)) r2 hf fun z F' H' g n => ?_
        obtain ⟨S3, rr3⟩ := S2.newR g n
        have q := setR i S3 rr3
        cases R with
        | sh d => exact p1 _ F' H' q (st1.trans (st2.trans g.fs))
        | fr d => exact p1 _ F' H' q (st1.trans (st2.trans g.fs))
    | _ => exact p.elim
end

/-! ### what is walked -/
/-- J yields what ds tells, and nothing else changes -/
def Gives (C : Ctx) (J : It) (ds : List D) (F : Hp) : Prop := ∀ F' H', Same F F' → Same F' H' →
  (∀ i d, ds[i]? = some d → J.go i H' ∧ ∀ x H'', J.yld i H' x H'' → ∃ F'', Grow NoB F' H' F'' H'' ∧ Rep C F'' x d) ∧ J.stop ds.length H'
/-- .. where what is pinned stands -/
def GivesP (C : Ctx) (P : Hp) (J : It) (ds : List D) (F : Hp) : Prop := ∀ F' H', Same F F' → Same F' H' → Same P H' →
  (∀ i d, ds[i]? = some d → J.go i H' ∧ ∀ x H'', J.yld i H' x H'' → ∃ F'', Grow NoB F' H' F'' H'' ∧ Rep C F'' x d) ∧ J.stop ds.length H'
theorem Gives.p {C : Ctx} {P : Hp} {J : It} {ds : List D} {F : Hp} (g : Gives C J ds F) : GivesP C P J ds F := fun F' H' s1 s2 _ => g F' H' s1 s2
def tI (C : Ctx) (B : Base) (W : WX) (m : M (List D)) : TI := fun σ H R => ∃ F E, Sim C B F H E σ ∧ Post C B W F σ (fun ds E' => ∀ J F' H', Sim C B F' H' E' σ → Same F F' → GivesP C B.pin J ds F' → R J H') (m E)
theorem Gives.mono {C : Ctx} {J : It} {ds : List D} {F F' : Hp} (g : Gives C J ds F) (st : Same F F') : Gives C J ds F' := fun F1 H1 s1 s2 => g F1 H1 (st.trans s1) s2
/-- K is about the walk of ds from turn i on -/
def forL (g : Tgt) (body : M Fl) : List D → M Fl
  | [], E => .ok .nx E
  | d :: ds, E => match g d E with
    | none => .stuck
    | some E1 => (body E1).bind fun f E2 => match f with
      | .nx => forL g body ds E2
      | .ct => forL g body ds E2
      | .bk => .ok .nx E2
      | .rt r => .ok (.rt r) E2
def sFor (mi : M (List D)) (g : Tgt) (body : M Fl) : M Fl := fun E => (mi E).bind fun ds E1 => forL g body ds E1
def whL (c : M Bool) (body : M Fl) : Nat → M Fl
  | 0, _ => .stuck
  | n + 1, E => (c E).bind fun b E1 => if b = true then (body E1).bind fun f E2 => match f with
      | .nx => whL c body n E2
      | .ct => whL c body n E2
      | .bk => .ok .nx E2
      | .rt r => .ok (.rt r) E2
    else .ok .nx E1
section
variable {C : Ctx} {B : Base} {W : WX} {X : Cx} {pos : Pos}
theorem ms_for {tg iter : Expr} {body : List Stmt} {mi : M (List D)} {g : Tgt} {js : List Nat} {mb : M Fl} (hp : PassesOwn (model X.prog X.w) X.A X.env X.xe) (hc : X.calm = true) (hi : PI X tg iter (tI C B W mi)) (hg : PG X tg (tG C B js g)) (hb : PSs X body (tS C B W mb))
    (hs : ∀ x, foldedSetIterable iter X.env x = pure x := by intro _; rfl) : PS X (.For tg iter body [] pos) (tS C B W (sFor mi g mb)) := by
  refine PS.imp (ps_for hp hc hi hg hb hs) fun D σ H ⟨F, E, S, p⟩ => ?_
  refine ⟨F, E, S, p.bind.e fun ds E1 q J F1 H1 S1 st1 gv => ?_⟩
  refine ⟨fun i m σ H => i + m = ds.length ∧ ∃ F2 E2, Sim C B F2 H E2 σ ∧ Same F1 F2 ∧ PostS C B W F2 (kS C B F D) (forL g mb (ds.drop i) E2), ⟨ds.length, Nat.zero_add _, F1, E1, S1, Same.refl F1, q.mono st1 fun _ _ z => z⟩, ?_⟩
  rintro i m σ2 H2 ⟨hm, F2, E2, S2, st2, p2⟩
  obtain ⟨g1, g2⟩ := gv F2 H2 st2 S2.fh fun a o e => (S2.pn a o e).1
  by_cases hlt : i < ds.length
  · have hd : ds.drop i = ds[i] :: ds.drop (i + 1) := List.drop_eq_getElem_cons hlt
    rw [hd] at p2
    obtain ⟨y1, y2⟩ := g1 i ds[i] (List.getElem?_eq_getElem hlt)
    refine .inr ⟨y1, fun σ' H' => ∃ F3 E3, Sim C B F3 H' E3 σ' ∧ Same F1 F3 ∧ PostS C B W F3 (kS C B F D) (forL g mb (ds.drop (i + 1)) E3), fun σ' H' ⟨F3, E3, S3, st3, p3⟩ => ⟨m - 1, by omega, by omega, F3, E3, S3, st3, p3⟩, fun x H' y => ?_⟩
    obtain ⟨F3, gr, r3⟩ := y2 x H' y
    have S3 := S2.grow gr
    cases hg : g ds[i] E2 with
    | none => simp only [forL, hg] at p2; exact p2.elim
    | some E3 =>
      simp only [forL, hg] at p2
      refine ⟨F3, E2, ds[i], E3, S3, r3, hg, fun σ4 F4 H4 S4 st4 _ => ?_⟩
      have st24 : Same F2 F4 := gr.fs.trans st4
      refine ⟨F4, E3, S4, (p2.bind.mono st24 fun f E5 q5 => ?_)⟩
      cases f with
      | nx => exact fun σ5 F5 H5 S5 st5 => ⟨F5, E5, S5, st2.trans (st24.trans st5), q5.mono (st24.trans st5) fun _ _ z => z⟩
      | ct => exact fun σ5 F5 H5 S5 st5 => ⟨F5, E5, S5, st2.trans (st24.trans st5), q5.mono (st24.trans st5) fun _ _ z => z⟩
      | bk => exact fun σ5 F5 H5 S5 st5 => q5 σ5 F5 H5 S5 (st1.trans (st2.trans (st24.trans st5)))
      | rt r => exact fun σ5 v F5 H5 S5 st5 rr => q5 σ5 v F5 H5 S5 (st1.trans (st2.trans (st24.trans st5))) rr
  · have e : i = ds.length := by omega
    subst e
    rw [List.drop_length] at p2
    exact .inl ⟨g2, p2 σ2 F2 H2 S2 (st1.trans st2)⟩
theorem ms_while {c : Expr} {body : List Stmt} {mc : M Bool} {mb : M Fl} (n : Nat) (hp : PassesOwn (model X.prog X.w) X.A X.env X.xe) (hc : PT X c (tT C B W mc)) (hb : PSs X body (tS C B W mb)) : PS X (.While c body [] pos) (tS C B W (whL mc mb n)) := by
  refine PS.imp (ps_while hp hc hb) fun D σ H ⟨F, E, S, p⟩ => ?_
  refine ⟨fun m σ H => ∃ F2 E2, Sim C B F2 H E2 σ ∧ Same F F2 ∧ PostS C B W F2 (kS C B F D) (whL mc mb m E2), ⟨n, F, E, S, Same.refl F, p⟩, ?_⟩
  rintro m σ2 H2 ⟨F2, E2, S2, st2, p2⟩
  cases m with
  | zero => exact p2.elim
  | succ m =>
    refine sT_go S2 p2 fun k E3 F3 H3 S3 st3 p3 => ?_
    cases k with
    | false => exact p3 σ2 F3 H3 S3 (st2.trans st3)
    | true =>
      refine ⟨fun σ' H' => ∃ F4 E4, Sim C B F4 H' E4 σ' ∧ Same F F4 ∧ PostS C B W F4 (kS C B F D) (whL mc mb m E4), fun σ' H' ⟨F4, E4, S4, st4, p4⟩ => ⟨m, Nat.lt_succ_self m, F4, E4, S4, st4, p4⟩, F3, E3, S3, ?_⟩
      have p3 : PostS C B W F3 (kS C B F D) ((mb E3).bind _) := p3
      refine p3.bind.mono (Same.refl F3) fun f E5 q5 => ?_
      cases f with
      | nx => exact fun σ5 F5 H5 S5 st5 => ⟨F5, E5, S5, st2.trans (st3.trans st5), q5.mono st5 fun _ _ z => z⟩
      | ct => exact fun σ5 F5 H5 S5 st5 => ⟨F5, E5, S5, st2.trans (st3.trans st5), q5.mono st5 fun _ _ z => z⟩
      | bk => exact fun σ5 F5 H5 S5 st5 => q5 σ5 F5 H5 S5 (st2.trans (st3.trans st5))
      | rt r => exact fun σ5 v F5 H5 S5 st5 rr => q5 σ5 v F5 H5 S5 (st2.trans (st3.trans st5)) rr
end

/-! ### the walks -/
def iV (f : D → Option (List D)) (m : M RV) : M (List D) := fun E => (m E).bind fun r E1 => match f r.d with
  | some ds => .ok ds E1
  | none => .stuck
def itL (d : D) : Option (List D) := match d with
  | .lst ds => some ds
  | _ => none
def itT (d : D) : Option (List D) := match d with
  | .tup ds => some ds
  | _ => none
def rgD (lo : Int) (n : Nat) : List D := (List.range n).map fun (k : Nat) => D.int (lo + k)
def rgOk (i : Int) : Bool := decide (-(2 ^ 62) ≤ i) && decide (i < 2 ^ 62)
def rg1 (ds : List D) : Option (List D) := match ds with
  | [.int j] => if rgOk j = true then some (rgD 0 j.toNat) else none
  | _ => none
def rg2 (ds : List D) : Option (List D) := match ds with
  | [.int i, .int j] => if rgOk i = true ∧ rgOk j = true then some (rgD i (j - i).toNat) else none
  | _ => none
def iN (f : List D → Option (List D)) (m : M (List D)) : M (List D) := fun E => (m E).bind fun ds E1 => match f ds with
  | some xs => .ok xs E1
  | none => .stuck
section
variable {C : Ctx} {B : Base} {W : WX} {X : Cx} {pos p : Pos} {tg a b : Expr} {ma : M RV} {mr : M (List D)}
theorem tI_up {m : M (List D)} {F F1 H1 : Hp} {E1 : Ev} {σ : St} {R : It → Hp → Prop} {ds : List D} (S1 : Sim C B F1 H1 E1 σ) (st1 : Same F F1) (p : ∀ J F' H', Sim C B F' H' E1 σ → Same F F' → GivesP C B.pin J ds F' → R J H') : ∀ J, GivesP C B.pin J ds F1 → R J H1 := fun J g => p J F1 H1 S1 st1 g
theorem gives_list {a : Addr} {vs : List V} {ds : List D} {F : Hp} (h : SqL C.K F a vs) (r : RepL C F vs ds) : Gives C (Itl C.K a) ds F := fun F' H' s1 s2 => by
  have hH : SqL C.K H' a vs := s2.seq (s1.seq h)
  refine ⟨fun i d e => ?_, ⟨vs, hH, by rw [r.length]; exact Nat.le_refl _⟩⟩
  obtain ⟨v, e1, r1⟩ := r.get e
  refine ⟨⟨vs, v, hH, e1⟩, fun x H'' y => ?_⟩
  obtain ⟨rfl, y2⟩ := y
  have e2 := y2 vs hH
  rw [e1] at e2; cases e2
  exact ⟨F', Grow.refl s2, r1.mono s1⟩
theorem gives_tup {a : Addr} {vs : List V} {ds : List D} {F : Hp} (h : SqT C.K F a vs) (r : RepL C F vs ds) : Gives C (Itt C.K a) ds F := fun F' H' s1 s2 => by
  have hH : SqT C.K H' a vs := SqT_mono s2 (SqT_mono s1 h)
  refine ⟨fun i d e => ?_, ⟨vs, hH, by rw [r.length]; exact Nat.le_refl _⟩⟩
  obtain ⟨v, e1, r1⟩ := r.get e
  refine ⟨⟨vs, v, hH, e1⟩, fun x H'' y => ?_⟩
  obtain ⟨rfl, y2⟩ := y
  have e2 := y2 vs hH
  rw [e1] at e2; cases e2
  exact ⟨F', Grow.refl s2, r1.mono s1⟩
theorem gives_range (lo : Int) (n : Nat) (F : Hp) : Gives C (Itr lo n) (rgD lo n) F := fun F' H' s1 s2 => by
  have hl : (rgD lo n).length = n := by unfold rgD; rw [List.length_map, List.length_range]
  refine ⟨fun i d e => ?_, by rw [hl]; exact Nat.le_refl _⟩
  have hi : i < n := by
    have := (List.getElem?_eq_some_iff.mp e).1
    omega
  have ed : d = .int (lo + i) := by
    unfold rgD at e
    rw [List.getElem?_map, List.getElem?_range hi] at e
    exact (Option.some.inj e).symm
  subst ed
  refine ⟨hi, fun x H'' y => ?_⟩
  obtain ⟨rfl, rfl⟩ := y
  exact ⟨F', Grow.refl s2, .int _⟩
theorem mi_list (hK : X.K = C.K) (ha : PE X a (tE C B W ma)) : PI X tg a (tI C B W (iV itL ma)) := by
  refine ⟨fun pins s σ H R I ⟨F, E, S, p⟩ => (pi_list ha).run pins s σ H R I ?_⟩
  refine tE_go S p fun r E1 v F1 H1 S1 st1 r1 p1 => ?_
  cases hd : itL r.d with
  | none => rw [hd] at p1; exact p1.elim
  | some ds =>
    rw [hd] at p1
    cases hr : r.d with
    | lst xs =>
      rw [hr] at hd r1; cases hd
      cases r1 with
      | @lst a vs ds hs hr =>
        rw [hK]
        exact ⟨a, rfl, ⟨vs, SqL.of (S1.fh _ _ hs)⟩, p1 _ F1 H1 S1 st1 (Gives.p (gives_list (SqL.of hs) hr))⟩
    | _ => rw [hr] at hd; cases hd
theorem mi_tup (hK : X.K = C.K) (ha : PE X a (tE C B W ma)) : PI X tg a (tI C B W (iV itT ma)) := by
  refine ⟨fun pins s σ H R I ⟨F, E, S, p⟩ => (pi_tup ha).run pins s σ H R I ?_⟩
  refine tE_go S p fun r E1 v F1 H1 S1 st1 r1 p1 => ?_
  cases hd : itT r.d with
  | none => rw [hd] at p1; exact p1.elim
  | some ds =>
    rw [hd] at p1
    cases hr : r.d with
    | tup xs =>
      rw [hr] at hd r1; cases hd
      cases r1 with
      | @tup a vs ds hs hr =>
        rw [hK]
        exact ⟨a, rfl, ⟨vs, SqT_mono S1.fh hs⟩, p1 _ F1 H1 S1 st1 (Gives.p (gives_tup hs hr))⟩
    | _ => rw [hr] at hd; cases hd
theorem rgOk_iff {i : Int} (h : rgOk i = true) : -(2 ^ 62) ≤ i ∧ i < 2 ^ 62 := by
  unfold rgOk at h
  simpa using h
theorem PI.imp {X : Cx} {tg e : Expr} {t t' : TI} (h : PI X tg e t) (i : ∀ σ H Q, t' σ H Q → t σ H Q) : PI X tg e t' := ⟨fun p s σ H Q I w => h.run p s σ H Q I (i σ H Q w)⟩
theorem rg1_inv {ds xs : List D} (h : rg1 ds = some xs) : ∃ j, ds = [.int j] ∧ rgOk j = true ∧ xs = rgD 0 j.toNat := by
  unfold rg1 at h
  split at h
  · rename_i j
    split at h
    · rename_i ok; cases h; exact ⟨j, rfl, ok, rfl⟩
    · cases h
  · cases h
theorem rg2_inv {ds xs : List D} (h : rg2 ds = some xs) : ∃ i j, ds = [.int i, .int j] ∧ rgOk i = true ∧ rgOk j = true ∧ xs = rgD i (j - i).toNat := by
  unfold rg2 at h
  split at h
  · rename_i i j
    split at h
    · rename_i ok; cases h; exact ⟨i, j, rfl, ok.1, ok.2, rfl⟩
    · cases h
  · cases h
theorem mi_range1 (hg : Gl X "range") (hm : X.mg "range" = none) (ha : PA X [a] (tA C B W mr)) (hs : starEach [a] X.env = [(false, eval a X.env)] := by rfl) : PI X tg (.Call (.Name "range" p) [a] [] pos) (tI C B W (iN rg1 mr)) := by
  refine PI.imp (pi_range1 hg hm ha hs) fun σ H R ⟨F, E, S, q⟩ => ?_
  refine tA_go S q fun ds E1 vs F1 H1 S1 st1 r1 p1 => ?_
  cases hf : rg1 ds with
  | none => rw [hf] at p1; exact p1.elim
  | some xs =>
    rw [hf] at p1
    obtain ⟨j, rfl, ok, rfl⟩ := rg1_inv hf
    obtain ⟨b1, b2⟩ := rgOk_iff ok
    cases r1 with
    | cons r rr =>
      cases rr
      cases r
      exact ⟨j, rfl, b1, b2, p1 _ F1 H1 S1 st1 (Gives.p (gives_range 0 j.toNat F1))⟩
theorem mi_range2 (hg : Gl X "range") (hm : X.mg "range" = none) (ha : PA X [a, b] (tA C B W mr)) (hs : starEach [a, b] X.env = [(false, eval a X.env), (false, eval b X.env)] := by rfl) (hs2 : starEach [b] X.env = [(false, eval b X.env)] := by rfl) :
    PI X tg (.Call (.Name "range" p) [a, b] [] pos) (tI C B W (iN rg2 mr)) := by
  refine PI.imp (pi_range2 hg hm ha hs hs2) fun σ H R ⟨F, E, S, q⟩ => ?_
  refine tA_go S q fun ds E1 vs F1 H1 S1 st1 r1 p1 => ?_
  cases hf : rg2 ds with
  | none => rw [hf] at p1; exact p1.elim
  | some xs =>
    rw [hf] at p1
    obtain ⟨i, j, rfl, ok, ok2, rfl⟩ := rg2_inv hf
    obtain ⟨b1, b2⟩ := rgOk_iff ok
    obtain ⟨b3, b4⟩ := rgOk_iff ok2
    cases r1 with
    | cons r rr =>
      cases rr with
      | cons r2 rr =>
        cases rr
        cases r
        cases r2
        exact ⟨i, j, rfl, ⟨b1, b2, b3, b4⟩, p1 _ F1 H1 S1 st1 (Gives.p (gives_range i _ F1))⟩
/-- a list or a tuple -/
def itS (d : D) : Option (List D) := match d with
  | .lst ds => some ds
  | .tup ds => some ds
  | _ => none
theorem pi_seq {l : Expr} {tl : TE} (hl : PE X l tl) : PI X tg l (fun σ H R => tl σ H fun x H1 => ∃ a, x = .ref a ∧ (((∃ xs, SqL X.K H1 a xs) ∧ R (Itl X.K a) H1) ∨ ((∃ xs, SqT X.K H1 a xs) ∧ R (Itt X.K a) H1))) := by
  refine ⟨fun pins s σ H R I h => ?_⟩
  refine thn (hl.run pins s σ H _ I h) fun v s1 ⟨x, H1, I1, r1, q1⟩ => ?_
  obtain ⟨a, e, ⟨⟨xs, hq⟩, q⟩ | ⟨⟨xs, hq⟩, q⟩⟩ := q1
  · subst e
    cases r1
    obtain ⟨its, rv, p, hz⟩ := I1.list hq
    refine wpAny_pyIter_list p.isList ?_
    refine ⟨s1.heap.objs.size, [s1.heap.objs.size], _, _, H1, rfl, I1.kept (t' := s1.toks) fun b o e => Heap.get?_push_of_some _ e, turn_list a _, ⟨_, Heap.get?_push_size _ rfl, rfl, rfl⟩, fun b hb => ?_, q⟩
    have e : b = s1.heap.objs.size := by simpa using hb
    subst e
    exact I1.fpOk (Nat.le_refl _) (I1.hok.fresh (Nat.le_refl _))
  · subst e
    cases r1
    obtain ⟨its, rv, p, hz⟩ := I1.tuple hq
    refine wpAny_pyIter_tuple (show s1.heap.IsTuple a its.toArray from p) ?_
    refine ⟨s1.heap.objs.size, [s1.heap.objs.size], _, _, H1, rfl, I1.kept (t' := s1.toks) fun b o e => Heap.get?_push_of_some _ e, turn_tuple a _, ⟨_, Heap.get?_push_size _ rfl, rfl, rfl⟩, fun b hb => ?_, q⟩
    have e : b = s1.heap.objs.size := by simpa using hb
    subst e
    exact I1.fpOk (Nat.le_refl _) (I1.hok.fresh (Nat.le_refl _))
theorem mi_seq (hK : X.K = C.K) (ha : PE X a (tE C B W ma)) : PI X tg a (tI C B W (iV itS ma)) := by
  refine PI.imp (pi_seq ha) fun σ H R ⟨F, E, S, p⟩ => ?_
  refine tE_go S p fun r E1 v F1 H1 S1 st1 r1 p1 => ?_
  cases hd : itS r.d with
  | none => rw [hd] at p1; exact p1.elim
  | some ds =>
    rw [hd] at p1
    cases hr : r.d with
    | tup xs =>
      rw [hr] at hd r1; cases hd
      cases r1 with
      | @tup a vs ds hs hr =>
        rw [hK]
        exact ⟨a, rfl, .inr ⟨⟨vs, SqT_mono S1.fh hs⟩, p1 _ F1 H1 S1 st1 (Gives.p (gives_tup hs hr))⟩⟩
    | lst xs =>
      rw [hr] at hd r1; cases hd
      cases r1 with
      | @lst a vs ds hs hr =>
        rw [hK]
        exact ⟨a, rfl, .inl ⟨⟨vs, SqL.of (S1.fh _ _ hs)⟩, p1 _ F1 H1 S1 st1 (Gives.p (gives_list (SqL.of hs) hr))⟩⟩
    | _ => rw [hr] at hd; cases hd
end
end MM

/-! MM: defs and their calls, comprehensions, what is owned changed. -/
namespace MM
open PySem PySem.Spec PyProof.Rows L2

/-! ### a def as a function of data -/
inductive FO where
  | ok (r : RV) | ex (x : Xc) | stuck
/-- .. whose first argument is an owned thing that it changes -/
inductive FB where
  | ok (r : RV) (d : D) | ex (x : Xc) (d : D) | stuck
def fspec (C : Ctx) (n : Nat) (f : List D → FO) : Sp := fun vs H Q E => ∃ F ds, Same F H ∧ RepL C F vs ds ∧ ds.length = n ∧ match f ds with
  | .ok r => ∀ v F' H', Grow NoB F H F' H' → NewR C F' H H' r v → Q v H'
  | .ex x => ∀ cls d F' H', Grow NoB F H F' H' → RepX C F' x cls d → E cls d H'
  | .stuck => False
def fspecB (C : Ctx) (n : Nat) (f : D → List D → FB) : Sp := fun vs H Q E => ∃ F a d ws ds, Same F H ∧ vs = .ref a :: ws ∧ Own C F H a d ∧ RepL C F ws ds ∧ ds.length + 1 = n ∧ match f d ds with
  | .ok r d' => ∀ v F' H', Grow (fun c => c = a) F H F' H' → Own C F' H' a d' → NewR C F' H H' r v → Q v H'
  | .ex x d' => ∀ cls e F' H', Grow (fun c => c = a) F H F' H' → Own C F' H' a d' → RepX C F' x cls e → E cls e H'
  | .stuck => False
/-- the slots at a def's entry -/
def ev0 (N : Nat) (ds : List D) : Ev := ds.map .sh ++ List.replicate (N - ds.length) .un
def mFn (N : Nat) (m : M Fl) (ds : List D) : FO := match m (ev0 N ds) with
  | .ok .nx _ => .ok (.sh .non)
  | .ok (.rt r) _ => .ok r
  | .ex x _ => .ex x
  | _ => .stuck
def ev0B (N : Nat) (d : D) (ds : List D) : Ev := .bo d :: (ds.map .sh ++ List.replicate (N - 1 - ds.length) .un)
def boAt (E : Ev) : Option D := match E with
  | .bo d :: _ => some d
  | _ => none
def mFnB (N : Nat) (m : M Fl) (d : D) (ds : List D) : FB := match m (ev0B N d ds) with
  | .ok .nx E => (match boAt E with | some d' => .ok (.sh .non) d' | none => .stuck)
  | .ok (.rt r) E => (match boAt E with | some d' => .ok r d' | none => .stuck)
  | .ex x E => (match boAt E with | some d' => .ex x d' | none => .stuck)
  | _ => .stuck
section
variable {C : Ctx}
theorem start_get {N : List Str} {vs : List V} {i : Nat} {v : V} (h : vs[i]? = some v) : (start N vs)[i]? = some (some v) := by
  unfold L2.start
  have hi : i < vs.length := (List.getElem?_eq_some_iff.mp h).1
  rw [List.getElem?_append_left (by simpa using hi), List.getElem?_map, h]
  rfl
theorem start_len {N : List Str} {vs : List V} (h : vs.length ≤ N.length) : (start N vs).length = N.length := by
  unfold L2.start
  rw [List.length_append, List.length_map, List.length_replicate]
  omega
theorem sim0 {F H : Hp} {N : List Str} {vs : List V} {ds : List D} (st : Same F H) (r : RepL C F vs ds) (hl : ds.length ≤ N.length) : Sim C ⟨F, H, NoB, fun _ => none⟩ F H (ev0 N.length ds) (start N vs) := by
  have el := r.length
  have get : ∀ (i : Nat) (s : Sl), (ev0 N.length ds)[i]? = some s → (∃ d, ds[i]? = some d ∧ s = .sh d) ∨ s = .un := fun i s e => by
    unfold ev0 at e
    by_cases hi : i < ds.length
    · rw [List.getElem?_append_left (by simpa using hi), List.getElem?_map] at e
      cases q : ds[i]? with
      | none => rw [q] at e; cases e
      | some d => rw [q] at e; cases e; exact .inl ⟨d, rfl, rfl⟩
    · rw [List.getElem?_append_right (by simpa using hi), List.getElem?_replicate] at e
      split at e
      · cases e; exact .inr rfl
      · cases e
  refine ⟨Grow.refl st, ?_, fun i s e => ?_, fun i j s t a e1 e2 o1 _ => ?_, fun _ _ e => by cases e⟩
  · rw [start_len (by omega)]
    unfold ev0
    rw [List.length_append, List.length_map, List.length_replicate]
    omega
  · rcases get i s e with ⟨d, e1, rfl⟩ | rfl
    · obtain ⟨v, h1, h2⟩ := r.get e1
      exact ⟨v, start_get h1, h2⟩
    · trivial
  · rcases get i s e1 with ⟨d, _, rfl⟩ | rfl <;> cases o1
theorem simB {F H : Hp} {N : List Str} {vs : List V} {ds : List D} {a : Addr} {d : D} (st : Same F H) (o : Own C F H a d) (r : RepL C F vs ds) (hl : ds.length + 1 ≤ N.length) :
    Sim C ⟨F, H, fun c => c = a, fun _ => none⟩ F H (ev0B N.length d ds) (start N (.ref a :: vs)) := by
  have el := r.length
  have get : ∀ (i : Nat) (s : Sl), (ev0B N.length d ds)[i]? = some s → (i = 0 ∧ s = .bo d) ∨ (∃ j d, i = j + 1 ∧ ds[j]? = some d ∧ s = .sh d) ∨ s = .un := fun i s e => by
    unfold ev0B at e
    cases i with
    | zero => cases e; exact .inl ⟨rfl, rfl⟩
    | succ i =>
      rw [List.getElem?_cons_succ] at e
      by_cases hi : i < ds.length
      · rw [List.getElem?_append_left (by simpa using hi), List.getElem?_map] at e
        cases q : ds[i]? with
        | none => rw [q] at e; cases e
        | some d => rw [q] at e; cases e; exact .inr (.inl ⟨i, d, rfl, q, rfl⟩)
      · rw [List.getElem?_append_right (by simpa using hi), List.getElem?_replicate] at e
        split at e
        · cases e; exact .inr (.inr rfl)
        · cases e
  refine ⟨Grow.refl st, ?_, fun i s e => ?_, fun i j s t b e1 e2 o1 o2 => ?_, fun _ _ e => by cases e⟩
  · rw [start_len (by simp only [List.length_cons]; omega)]
    unfold ev0B
    rw [List.length_cons, List.length_append, List.length_map, List.length_replicate]
    omega
  · rcases get i s e with ⟨rfl, rfl⟩ | ⟨j, d', rfl, e1, rfl⟩ | rfl
    · exact ⟨a, start_get rfl, o, rfl⟩
    · obtain ⟨v, h1, h2⟩ := r.get e1
      exact ⟨v, start_get (by rw [List.getElem?_cons_succ]; exact h1), h2⟩
    · trivial
  · intro _ _
    rcases get i s e1 with ⟨rfl, rfl⟩ | ⟨_, _, _, _, rfl⟩ | rfl
    · rcases get j t e2 with ⟨rfl, rfl⟩ | ⟨_, _, _, _, rfl⟩ | rfl
      · rfl
      · cases o2
      · cases o2
    · cases o1
    · cases o1
theorem NewR.of {B : Base} {F H : Hp} {E : Ev} {σ : St} {r : RV} {v : V} (rr : RepR C B F H E σ r v) : NewR C F B.H0 H r v := by
  cases r with
  | sh d => exact rr
  | fr d => obtain ⟨a, e, o, n, _⟩ := rr; exact ⟨a, e, n, o⟩
variable {P : Program} {w : World} {K : PySem.W.Frag} {mg : Str → Option Value} {base : Heap}
/-- what a def's own wish about exceptions is -/
abbrev WFn (E : XK) : WX := fun cls d _ H => E cls d H
/-- THE RULE: a def keeps the promise of its function -/
theorem fn_ok {x qual : Str} {st : Stmt} {dvs : List V} {kws : List (Str × V)} {f : Addr} {fd : FuncData} {N ps : List Str} {k : Nat} {m : M Fl} (F : FunD K x qual (defArgs st) (defBody st) (defScope st) dvs kws f fd) (S : FnScope N ps (defScope st))
    (body : ∀ (cdv : Value) (A : Around) (outer : List Env) (s : Shared) (H : Hp) (E : XK) (B : Base), Room k (A.deeper (envOfC qual (defScope st) s.heap.objs.size f cdv)) →
      PSs (cxOf (L2.CX P w) P w K mg base N qual (defScope st) f cdv A outer s H E) (defBody st) (tS C B (WFn E) m)) : FnOk P w K mg base (L2.CX P w) (k + 1) f fd ps (fspec C ps.length (mFn N.length m)) := by
  have hpl : ps.length ≤ N.length := by have := congrArg List.length S.pre; rw [List.length_take] at this; omega
  refine F.ok S (fun vs H Q E h => ?_) (fun cdv A outer s H vs Q E hr h => ?_)
  · obtain ⟨F0, ds, _, r, hl, _⟩ := h
    rw [r.length, hl]
  · obtain ⟨F0, ds, st0, r, hl, p⟩ := h
    refine ⟨_, body cdv A outer s H E ⟨F0, H, NoB, fun _ => none⟩ hr, F0, ev0 N.length ds, sim0 st0 r (by omega), ?_⟩
    unfold mFn at p
    cases hm : m (ev0 N.length ds) with
    | stuck => rw [hm] at p; exact p
    | ex x E1 =>
      rw [hm] at p
      exact fun σ cls d F' H' S' st' rx => p cls d F' H' S'.g rx
    | ok fl E1 =>
      rw [hm] at p
      cases fl with
      | nx => exact fun σ F' H' S' st' => p .non F' H' S'.g .non
      | rt r => exact fun σ v F' H' S' st' rr => p v F' H' S'.g (NewR.of rr)
      | bk => exact p.elim
      | ct => exact p.elim
theorem boAt_inv {E : Ev} {d : D} (h : boAt E = some d) : E[0]? = some (.bo d) := by
  cases E with
  | nil => cases h
  | cons s r =>
    cases s with
    | bo d' => cases h; rfl
    | _ => cases h
theorem bo_end {F H F' H' : Hp} {a : Addr} {E : Ev} {σ : St} {d : D} (S : Sim C ⟨F, H, fun c => c = a, fun _ => none⟩ F' H' E σ) (h : boAt E = some d) : Own C F' H' a d := by
  obtain ⟨b, e, o, hb⟩ := S.sl 0 _ (boAt_inv h)
  cases hb
  exact o
theorem fn_okB {x qual : Str} {st : Stmt} {dvs : List V} {kws : List (Str × V)} {f : Addr} {fd : FuncData} {N ps : List Str} {k : Nat} {m : M Fl} (F : FunD K x qual (defArgs st) (defBody st) (defScope st) dvs kws f fd) (S : FnScope N ps (defScope st))
    (body : ∀ (cdv : Value) (A : Around) (outer : List Env) (s : Shared) (H : Hp) (E : XK) (B : Base), Room k (A.deeper (envOfC qual (defScope st) s.heap.objs.size f cdv)) →
      PSs (cxOf (L2.CX P w) P w K mg base N qual (defScope st) f cdv A outer s H E) (defBody st) (tS C B (WFn E) m)) : FnOk P w K mg base (L2.CX P w) (k + 1) f fd ps (fspecB C ps.length (mFnB N.length m)) := by
  have hpl : ps.length ≤ N.length := by have := congrArg List.length S.pre; rw [List.length_take] at this; omega
  refine F.ok S (fun vs H Q E h => ?_) (fun cdv A outer s H vs Q E hr h => ?_)
  · obtain ⟨F0, a, d, ws, ds, _, rfl, _, r, hl, _⟩ := h
    rw [List.length_cons, r.length, hl]
  · obtain ⟨F0, a, d, ws, ds, st0, rfl, o, r, hl, p⟩ := h
    refine ⟨_, body cdv A outer s H E ⟨F0, H, fun c => c = a, fun _ => none⟩ hr, F0, ev0B N.length d ds, simB st0 o r (by omega), ?_⟩
    unfold mFnB at p
    cases hm : m (ev0B N.length d ds) with
    | stuck => rw [hm] at p; exact p
    | ex x E1 =>
      rw [hm] at p
      dsimp only at p
      cases hb : boAt E1 with
      | none => rw [hb] at p; exact p.elim
      | some d' =>
        rw [hb] at p
        exact fun σ cls d F' H' S' st' rx => p cls d F' H' S'.g (bo_end S' hb) rx
    | ok fl E1 =>
      rw [hm] at p
      cases fl with
      | nx =>
        dsimp only at p
        cases hb : boAt E1 with
        | none => rw [hb] at p; exact p.elim
        | some d' =>
          rw [hb] at p
          exact fun σ F' H' S' st' => p .non F' H' S'.g (bo_end S' hb) .non
      | rt r =>
        dsimp only at p
        cases hb : boAt E1 with
        | none => rw [hb] at p; exact p.elim
        | some d' =>
          rw [hb] at p
          exact fun σ v F' H' S' st' rr => p v F' H' S'.g (bo_end S' hb) (NewR.of rr)
      | bk => exact p.elim
      | ct => exact p.elim
end

/-! ### calls -/
def goF (o : FO) (E : Ev) : Out RV := match o with
  | .ok r => .ok r E
  | .ex x => .ex x E
  | .stuck => .stuck
def eCall (n : Nat) (f : List D → FO) (m : M (List D)) : M RV := fun E => (m E).bind fun ds E1 => if ds.length = n then goF (f ds) E1 else .stuck
/-- of several defs, by what the i-th slot holds -/
def eCallL (n : Nat) (i : Nat) (T : Nat → Option (List D → FO)) (m : M (List D)) : M RV := fun E => match E[i]? with
  | some (.sh (.gl c)) => (match T c with
    | some g => (m E).bind fun ds E1 => if ds.length = n then goF (g ds) E1 else .stuck
    | none => .stuck)
  | _ => .stuck
/-- the i-th slot owns what it holds -/
def ownAt (E : Ev) (i : Nat) : Bool := match E[i]? with
  | some s => s.own
  | none => false
def goB (i : Nat) (k : D → Sl) (o : FB) (E : Ev) : Out RV := match o with
  | .ok r d => .ok r (E.set i (k d))
  | .ex x d => .ex x (E.set i (k d))
  | .stuck => .stuck
/-- f(x, ..), x a slot that owns what f changes -/
def eCallB (n : Nat) (i : Nat) (f : D → List D → FB) (m : M (List D)) : M RV := fun E => if ownAt E i = true then (m E).bind fun ds E1 => if ds.length + 1 = n then (match E1[i]? with
  | some (.ow d) => goB i .ow (f d ds) E1
  | some (.bo d) => goB i .bo (f d ds) E1
  | _ => .stuck) else .stuck else .stuck
section
variable {C : Ctx} {B : Base} {W : WX} {X : Cx} {pos p apos : Pos} {e : Expr} {es : List Expr} {mr : M (List D)} {x : Str} {k : Nat} {f : Addr} {fd : FuncData} {ps : List Str} {n : Nat}
theorem fspec_go {F F1 H1 : Hp} {E1 : Ev} {σ : St} {Q : VK} {g : List D → FO} {vs : List V} {ds : List D} (S1 : Sim C B F1 H1 E1 σ) (st : Same F F1) (r1 : RepL C F1 vs ds)
    (p1 : Post C B W F1 σ (kE C B F σ Q) (if ds.length = n then goF (g ds) E1 else .stuck)) : fspec C n g vs H1 Q (WE W σ) := by
  split at p1
  · rename_i hl
    refine ⟨F1, ds, S1.fh, r1, hl, ?_⟩
    cases hg : g ds with
    | stuck => rw [hg] at p1; exact p1
    | ex x => rw [hg] at p1; exact fun cls d F' H' gr rx => p1 cls d F' H' (S1.grow gr) gr.fs rx
    | ok r =>
      rw [hg] at p1
      exact fun v F' H' gr nr => by
        obtain ⟨S2, rr⟩ := S1.newR gr nr
        exact p1 v F' H' S2 (st.trans gr.fs) rr
  · exact p1.elim
/-- the def at C.fa c does what g tells -/
def Good (C : Ctx) (P : Program) (w : World) (K : PySem.W.Frag) (mg : Str → Option Value) (base : Heap) (k c n : Nat) (g : List D → FO) : Prop :=
  ∃ fd ps, FnOk P w K mg base (L2.CX P w) k (C.fa c) fd ps (fspec C n g) ∧ PySem.W.keepIn K (.ref (C.fa c)) = true ∧ Binds K fd ps []
def GoodB (C : Ctx) (P : Program) (w : World) (K : PySem.W.Frag) (mg : Str → Option Value) (base : Heap) (k c n : Nat) (g : D → List D → FB) : Prop :=
  ∃ fd ps, FnOk P w K mg base (L2.CX P w) k (C.fa c) fd ps (fspecB C n g) ∧ PySem.W.keepIn K (.ref (C.fa c)) = true ∧ Binds K fd ps []
theorem Good.mono {P : Program} {w : World} {K : PySem.W.Frag} {mg : Str → Option Value} {base : Heap} {j k c n : Nat} {g : List D → FO} (G : Good C P w K mg base j c n g) (h : j ≤ k) : Good C P w K mg base k c n g := by
  obtain ⟨fd, ps, F, a, b⟩ := G
  exact ⟨fd, ps, F.mono h, a, b⟩
theorem me_call {c : Nat} {g : List D → FO} (G : Good C X.prog X.w X.K X.mg X.base k c n g) (hr : Room k X.A) (hg : Gl X x) (hm : X.mg x = some (.ref (C.fa c))) (tk : Takes X W)
    (ha : PA X (e :: es) (tA C B W mr)) (hdb : (x == ("__debug__" : Str)) = false := by decide) (he : starEach (e :: es) X.env = (false, eval e X.env) :: starEach es X.env := by rfl) (hpl : (backTo pos (starEach es X.env)).any (·.1) = false := by rfl) :
    PE X (.Call (.Name x p) (e :: es) [] pos) (tE C B W (eCall n g mr)) := by
  obtain ⟨fd, ps, F, hk, hb⟩ := G
  refine PE.imp (pe_callS F hr hg hm hk hb (fun σ => passAt tk σ) ha hdb he hpl) fun σ H Q ⟨F0, E, S, q⟩ => ?_
  exact tA_go S q fun ds E1 vs F1 H1 S1 st1 r1 p1 => fspec_go S1 st1 r1 p1
/-- no arguments -/
theorem pe_callS0 {CX : CXT} {sp : Sp} {E : L2.St → XK} (F : FnOk X.prog X.w X.K X.mg X.base CX k f fd ps sp) (hr : Room k X.A) (hg : Gl X x) (hm : X.mg x = some (.ref f)) (hk : PySem.W.keepIn X.K (.ref f) = true) (hb : Binds X.K fd ps []) (hx : ∀ σ, PassesAt CX X σ (E σ))
    (hdb : (x == ("__debug__" : Str)) = false := by decide) : PE X (.Call (.Name x p) [] [] pos) (fun σ H Q => sp [] H Q (E σ)) := by
  refine ⟨fun pins s σ H Q I h => ?_⟩
  refine wpAny_Call_Name_kw (ld_glob I hg hm ?_ hdb)
  exact PySem.W.callWith_K0 I.kIn hk (run_fnS (us := []) F hr hb (hx σ) I .nil h)
theorem me_call0 {c : Nat} {g : List D → FO} (G : Good C X.prog X.w X.K X.mg X.base k c n g) (hr : Room k X.A) (hg : Gl X x) (hm : X.mg x = some (.ref (C.fa c))) (tk : Takes X W)
    (hdb : (x == ("__debug__" : Str)) = false := by decide) : PE X (.Call (.Name x p) [] [] pos) (tE C B W (eCall n g aNil)) := by
  obtain ⟨fd, ps, F, hk, hb⟩ := G
  refine PE.imp (pe_callS0 F hr hg hm hk hb (fun σ => passAt tk σ) hdb) fun σ H Q ⟨F0, E, S, q⟩ => ?_
  exact fspec_go S (Same.refl F0) .nil q
/-- the defs that a slot may hold -/
structure Tab (C : Ctx) (P : Program) (w : World) (K : PySem.W.Frag) (mg : Str → Option Value) (base : Heap) (k n : Nat) (T : Nat → Option (List D → FO)) : Prop where
  ok : ∀ c g, T c = some g → Good C P w K mg base k c n g
theorem me_callL {T : Nat → Option (List D → FO)} (i : Nat) (A : Tab C X.prog X.w X.K X.mg X.base k n T) (hr : Room k X.A) (tk : Takes X W) (ha : PA X (e :: es) (tA C B W mr)) (hN : X.N[i]? = some x := by rfl)
    (hv : Vis X.env.scope x := by first | exact Or.inl rfl | exact Or.inr (Or.inl rfl) | exact Or.inr (Or.inr rfl)) (hdb : (x == ("__debug__" : Str)) = false := by decide) (hcd : (x == ("__classdict__" : Str)) = false := by decide)
    (he : starEach (e :: es) X.env = (false, eval e X.env) :: starEach es X.env := by rfl) (hpl : (backTo pos (starEach es X.env)).any (·.1) = false := by rfl) : PE X (.Call (.Name x p) (e :: es) [] pos) (tE C B W (eCallL n i T mr)) := by
  refine ⟨fun pins s σ H Q I ⟨F0, E, S, q⟩ => ?_⟩
  unfold eCallL at q
  cases hE : E[i]? with
  | none => rw [hE] at q; exact q.elim
  | some sl =>
    rw [hE] at q
    cases sl with
    | sh d =>
      cases d with
      | gl c =>
        obtain ⟨v, h1, h2⟩ := S.sl i _ hE
        cases h2
        dsimp only at q
        cases hT : T c with
        | none => rw [hT] at q; exact q.elim
        | some g =>
          rw [hT] at q
          dsimp only at q
          obtain ⟨fd, ps, F, hk, hb⟩ := A.ok c g hT
          refine wpAny_Call_Name_kw (thn ((pe_var (pos := p) hN hv hdb hcd).run pins s σ H (fun v H1 => v = .ref (C.fa c) ∧ H1 = H) I ⟨.ref (C.fa c), h1, rfl, rfl⟩) fun u s1 ⟨v, H1, I1, r1, q1⟩ => ?_)
          obtain ⟨rfl, rfl⟩ := q1
          cases r1
          have ht : tA C B W mr σ H1 (fun vs H2 => fspec C n g vs H2 Q (WE W σ)) := tA_go S q fun ds E1 vs F1 H2 S1 st1 r1 p1 => fspec_go S1 st1 r1 p1
          refine PySem.W.callWith_K (h₀ := X.base) I.ok.mod.kin hk (thn (ha.run pos pins s1 σ _ _ I1 ht) fun us s2 ⟨vs, H2, I2, r, q2⟩ => ⟨I2.kIn, ?_⟩) he hpl
          exact run_fnS F hr hb (passAt tk σ) I2 r q2
      | _ => exact q.elim
    | _ => exact q.elim
theorem ownAt_inv {E : Ev} {i : Nat} (h : ownAt E i = true) : ∃ s, E[i]? = some s ∧ s.own = true := by
  unfold ownAt at h
  cases e : E[i]? with
  | none => rw [e] at h; cases h
  | some s => rw [e] at h; exact ⟨s, rfl, h⟩
variable {y : Str} {py : Pos}
theorem me_callO {c : Nat} {g : D → List D → FB} (i : Nat) (G : GoodB C X.prog X.w X.K X.mg X.base k c n g) (hr : Room k X.A) (hg : Gl X x) (hm : X.mg x = some (.ref (C.fa c))) (tk : Takes X W)
    (ha : PA X es (tA C B W mr)) (hN : X.N[i]? = some y := by rfl) (hv : Vis X.env.scope y := by first | exact Or.inl rfl | exact Or.inr (Or.inl rfl) | exact Or.inr (Or.inr rfl)) (hdy : (y == ("__debug__" : Str)) = false := by decide) (hcy : (y == ("__classdict__" : Str)) = false := by decide)
    (hdb : (x == ("__debug__" : Str)) = false := by decide) (he : starEach (.Name y py :: es) X.env = (false, eval (.Name y py) X.env) :: starEach es X.env := by rfl) (hpl : (backTo pos (starEach es X.env)).any (·.1) = false := by rfl) :
    PE X (.Call (.Name x p) (.Name y py :: es) [] pos) (tE C B W (eCallB n i g mr)) := by
  obtain ⟨fd, ps, F, hk, hb⟩ := G
  refine PE.imp (pe_callS F hr hg hm hk hb (fun σ => passAt tk σ) (pa_cons (pe_var (i := i) hN hv hdy hcy) ha he) hdb he hpl) fun σ H Q ⟨F0, E, S, q⟩ => ?_
  unfold eCallB at q
  split at q
  · rename_i ho
    obtain ⟨s0, e0, o0⟩ := ownAt_inv ho
    obtain ⟨a, d0, ha0, _, _, _⟩ := S.at e0 o0
    refine ⟨_, ha0, ?_⟩
    refine tA_go S q fun ds E1 vs F1 H1 S1 st1 r1 p1 => ?_
    split at p1
    · rename_i hl
      have key : ∀ (d : D) (kd : D → Sl), E1[i]? = some (kd d) → (∀ d, (kd d).own = true) → (∀ d', (kd d = .ow d ∧ kd d' = .ow d') ∨ (kd d = .bo d ∧ kd d' = .bo d')) → Post C B W F1 σ (kE C B F0 σ Q) (goB i kd (g d ds) E1) → fspecB C n g (.ref a :: vs) H1 Q (WE W σ) := fun d kd e1 ok kd2 p1 => by
        obtain ⟨a', d1, y1, y2, y3, _⟩ := S1.at e1 (ok d)
        rw [ha0] at y1; cases y1
        have ed : d1 = d := by
          rcases kd2 d with ⟨h, _⟩ | ⟨h, _⟩ <;> rcases y3 with y3 | y3 <;> rw [h] at y3 <;> cases y3 <;> rfl
        subst ed
        refine ⟨F1, a, d1, vs, ds, S1.fh, rfl, y2, r1, hl, ?_⟩
        cases hgd : g d1 ds with
        | stuck => rw [hgd] at p1; exact p1
        | ex x d' => 
          rw [hgd] at p1
          exact fun cls e F' H' gr o rx => p1 cls e F' H' (S1.upd e1 (kd2 d') ha0 gr o) gr.fs rx
        | ok r d' =>
          rw [hgd] at p1
          exact fun v F' H' gr o nr => by
            have S2 := S1.upd e1 (kd2 d') ha0 gr o
            refine p1 v F' H' S2 (st1.trans gr.fs) ?_
            cases r with
            | sh d => exact nr
            | fr d =>
              obtain ⟨b, eb, nb, ob⟩ := nr
              refine ⟨b, eb, ob, S1.g.bs b nb, fun j t q os z => ?_, ?_⟩
              · have old : ∃ t', E1[j]? = some t' ∧ t'.own = true := by
                  rw [List.getElem?_set] at q
                  split at q
                  · rename_i hij; subst hij; exact ⟨_, e1, ok d1⟩
                  · exact ⟨t, q, os⟩
                obtain ⟨t', q1, q2⟩ := old
                obtain ⟨c, dc, z1, z2, _⟩ := S1.at q1 q2
                rw [z] at z1; cases z1
                obtain ⟨u, hu⟩ := z2.tracked
                rw [nb] at hu; cases hu
              · cases q : B.pin b with
                | none => rfl
                | some w => have := (S1.pn b w q).1; rw [nb] at this; cases this
      cases e1 : E1[i]? with
      | none => rw [e1] at p1; exact p1.elim
      | some s =>
        rw [e1] at p1
        cases s with
        | ow d => exact key d .ow e1 (fun _ => rfl) (fun _ => .inl ⟨rfl, rfl⟩) p1
        | bo d => exact key d .bo e1 (fun _ => rfl) (fun _ => .inr ⟨rfl, rfl⟩) p1
        | _ => exact p1.elim
    · exact p1.elim
  · exact q.elim
end
end MM

/-! MM: what is owned, read and changed; comprehensions. -/
namespace MM
open PySem PySem.Spec PyProof.Rows L2

def hold (E : Ev) (i : Nat) : Option D := match E[i]? with
  | some (.ow d) => some d
  | some (.bo d) => some d
  | _ => none
def putH (E : Ev) (i : Nat) (d : D) : Ev := match E[i]? with
  | some (.ow _) => E.set i (.ow d)
  | some (.bo _) => E.set i (.bo d)
  | _ => E
section
variable {C : Ctx} {B : Base} {F F' H H' : Hp} {E : Ev} {σ : St} {i : Nat} {d d' : D} {a : Addr}
theorem hold_inv (h : hold E i = some d) : E[i]? = some (.ow d) ∨ E[i]? = some (.bo d) := by
  unfold hold at h
  split at h
  · cases h; exact .inl (by assumption)
  · cases h; exact .inr (by assumption)
  · cases h
theorem Sim.hold (S : Sim C B F H E σ) (h : hold E i = some d) : ∃ a, σ[i]? = some (some (.ref a)) ∧ Own C F H a d := by
  rcases hold_inv h with e | e
  · obtain ⟨a, h1, h2, _⟩ := S.sl i _ e; exact ⟨a, h1, h2⟩
  · obtain ⟨a, h1, h2, _⟩ := S.sl i _ e; exact ⟨a, h1, h2⟩
theorem Sim.putH (S : Sim C B F H E σ) (h : MM.hold E i = some d) (ha : σ[i]? = some (some (.ref a))) (g : Grow (fun c => c = a) F H F' H') (o : Own C F' H' a d') : Sim C B F' H' (putH E i d') σ := by
  unfold MM.putH
  rcases hold_inv h with e | e
  · rw [e]; exact S.upd e (.inl ⟨rfl, rfl⟩) ha g o
  · rw [e]; exact S.upd e (.inr ⟨rfl, rfl⟩) ha g o
end
/-- x.m(..): f tells what x holds then, and the answer; q: what x holds ahead of the arguments -/
def eOwn (i : Nat) (q : D → Bool) (f : D → List D → Option (D × D)) (m : M (List D)) : M RV := fun E => match hold E i with
  | some d0 => if q d0 = true then (m E).bind fun ds E1 => (match hold E1 i with
    | some d => (match f d ds with | some (d', r) => .ok (.sh r) (putH E1 i d') | none => .stuck)
    | none => .stuck) else .stuck
  | none => .stuck
def eIxO (i : Nat) (m : M RV) : M RV := fun E => match hold E i with
  | some d0 => (m E).bind fun k E1 => (match hold E1 i with
    | some (.lst xs) => (match k.d with | .int j => (match atI xs j with | some d => .ok (.sh d) E1 | none => .stuck) | _ => .stuck)
    | _ => .stuck)
  | none => .stuck
def eLenO (i : Nat) : M RV := fun E => match hold E i with
  | some (.lst xs) => .ok (.sh (.int xs.length)) E
  | _ => .stuck
def isLst : D → Bool
  | .lst _ => true
  | _ => false
def sSetIx (i : Nat) (mv mk : M RV) : M Fl := fun E => (mv E).bind fun v E1 => match hold E1 i with
  | some d0 => (mk E1).bind fun k E2 => (match hold E2 i with
    | some (.lst xs) => (match k.d with | .int j => (match ixN xs.length j with | some n => .ok .nx (putH E2 i (.lst (xs.set n v.d))) | none => .stuck) | _ => .stuck)
    | _ => .stuck)
  | none => .stuck
/-- a method by values -/
def OwnR (C : Ctx) (r : V → List V → Hp → VK → Prop) (f : D → List D → Option (D × D)) : Prop := ∀ (F H : Hp) (a : Addr) (d : D) (vs : List V) (ds : List D) (d' rd : D) (Q : VK), Same F H → Own C F H a d → RepL C F vs ds → f d ds = some (d', rd) →
  (∀ v F' H', Grow (fun c => c = a) F H F' H' → Own C F' H' a d' → Rep C F' v rd → Q v H') → r (.ref a) vs H Q
section
variable {C : Ctx} {B : Base} {W : WX} {X : Cx} {pos p apos cpos : Pos} {e b : Expr} {es : List Expr} {mr : M (List D)} {mb mv : M RV} {x y name : Str} {py : Pos} {T id : String} {r : V → List V → Hp → VK → Prop} {q : D → Bool} {f : D → List D → Option (D × D)}
theorem eOwn_go (i : Nat) {σ : St} {H : Hp} {Q : VK} (ty : ∀ F H a d, Own C F H a d → q d = true → tyV X.K T (.ref a) H) (ho : OwnR C r f) (t : tE C B W (eOwn i q f mr) σ H Q) : tBM X.K T r (tVar i) (tA C B W mr) σ H Q := by
  obtain ⟨F0, E, S, p⟩ := t
  unfold eOwn at p
  cases e : hold E i with
  | none => rw [e] at p; exact p.elim
  | some d0 =>
    rw [e] at p
    dsimp only at p
    split at p
    · rename_i hq
      obtain ⟨a, ha, o0⟩ := S.hold e
      refine ⟨_, ha, ty _ _ _ _ o0 hq, ?_⟩
      refine tA_go S p fun ds E1 vs F1 H1 S1 st1 r1 p1 => ?_
      cases e1 : hold E1 i with
      | none => rw [e1] at p1; exact p1.elim
      | some d =>
        rw [e1] at p1
        dsimp only at p1
        cases hf : f d ds with
        | none => rw [hf] at p1; exact p1.elim
        | some pr =>
          rw [hf] at p1
          obtain ⟨d', rd⟩ := pr
          obtain ⟨a', ha', o1⟩ := S1.hold e1
          rw [ha] at ha'; cases ha'
          exact ho F1 H1 a d vs ds d' rd Q S1.fh o1 r1 hf fun v F' H' g o rr => p1 v F' H' (S1.putH e1 ha g o) (st1.trans g.fs) rr
    · exact p.elim
theorem me_own (i : Nat) (pa : PlainAttrs T) (slot : PySem.Slot T name id) (hty : typeOf (.builtin id) = pure (.type "method_descriptor")) (hm : MtR X id r) (ty : ∀ F H a d, Own C F H a d → q d = true → tyV X.K T (.ref a) H) (ho : OwnR C r f)
    (ha : PA X (e :: es) (tA C B W mr)) (hN : X.N[i]? = some y := by rfl) (hv : Vis X.env.scope y := by first | exact Or.inl rfl | exact Or.inr (Or.inl rfl) | exact Or.inr (Or.inr rfl)) (hdy : (y == ("__debug__" : Str)) = false := by decide) (hcy : (y == ("__classdict__" : Str)) = false := by decide)
    (h1 : attributeBase (.Name y py) name X.env (eval (.Name y py) X.env) = eval (.Name y py) X.env := by rfl)
    (h2 : (((backTo cpos (starEach (e :: es) X.env)).all fun x => !x.fst) && ((backToKw cpos (keywordEach [] X.env)).all fun x => x.fst.isSome) && decide (((e :: es).length + ([] : List Keyword).length + if ([] : List Keyword).isEmpty = true then 0 else 1) < 30)) = true := by rfl)
    (h3 : (apos.endLine == cpos.line) = true := by rfl) (h4 : starEach (e :: es) X.env = (false, eval e X.env) :: starEach es X.env := by rfl) (h5 : ((backTo cpos (starEach es X.env)).any fun x => x.fst) = false := by rfl) :
    PE X (.Call (.Attribute (.Name y py) name apos) (e :: es) [] cpos) (tE C B W (eOwn i q f mr)) :=
  PE.imp (pe_bm pa slot hty hm (pe_var hN hv hdy hcy) ha h1 h2 h3 h4 h5) fun _ _ _ t => eOwn_go i ty ho t
theorem ty_list {F H : Hp} {a : Addr} {d : D} (o : Own C F H a d) (h : isLst d = true) {K : PySem.W.Frag} : tyV K "list" (.ref a) H := by
  cases d with
  | lst ds => obtain ⟨_, vs, e, _⟩ := o; exact .inl ⟨rfl, _, SqL.of e⟩
  | _ => cases h
/-! ### what is at an owned list's place -/
theorem me_ixO (hK : X.K = C.K) (i : Nat) (hb : PE X b (tE C B W mb)) (hs : PlainIx b) (hN : X.N[i]? = some y := by rfl) (hv : Vis X.env.scope y := by first | exact Or.inl rfl | exact Or.inr (Or.inl rfl) | exact Or.inr (Or.inr rfl)) (hdy : (y == ("__debug__" : Str)) = false := by decide) (hcy : (y == ("__classdict__" : Str)) = false := by decide) :
    PE X (.Subscript (.Name y py) b pos) (tE C B W (eIxO i mb)) := by
  refine PE.imp (pe_ix ix_list (pe_var (i := i) hN hv hdy hcy) hb hs) fun σ H Q ⟨F0, E, S, p⟩ => ?_
  unfold eIxO at p
  cases e : hold E i with
  | none => rw [e] at p; exact p.elim
  | some d0 =>
    rw [e] at p
    dsimp only at p
    obtain ⟨a, ha, o0⟩ := S.hold e
    refine ⟨_, ha, ?_⟩
    refine tE_go S p fun k E1 v F1 H1 S1 st1 r1 p1 => ?_
    cases e1 : hold E1 i with
    | none => rw [e1] at p1; exact p1.elim
    | some d =>
      rw [e1] at p1
      obtain ⟨a', ha', o1⟩ := S1.hold e1
      rw [ha] at ha'; cases ha'
      cases d with
      | lst xs =>
        obtain ⟨_, vs, hH, rl⟩ := o1
        dsimp only at p1
        cases hk : k.d with
        | int j =>
          rw [hk] at p1 r1
          cases r1
          dsimp only at p1
          cases hx : atI xs j with
          | none => rw [hx] at p1; exact p1.elim
          | some d =>
            rw [hx] at p1
            unfold atI at hx
            obtain ⟨n, hn1, hn2⟩ := Option.bind_eq_some_iff.mp hx
            obtain ⟨v, hv1, hv2⟩ := rl.get hn2
            refine ⟨a, vs, j, v, rfl, rfl, SqL.of hH, ?_, p1 v F1 H1 S1 st1 hv2⟩
            unfold atI
            rw [rl.length, hn1]
            exact hv1
        | _ => rw [hk] at p1; exact p1.elim
      | _ => exact p1.elim
theorem me_lenO (hK : X.K = C.K) (i : Nat) (hg : Gl X "len") (hm : X.mg "len" = none) (hN : X.N[i]? = some y := by rfl) (hv : Vis X.env.scope y := by first | exact Or.inl rfl | exact Or.inr (Or.inl rfl) | exact Or.inr (Or.inr rfl)) (hdy : (y == ("__debug__" : Str)) = false := by decide) (hcy : (y == ("__classdict__" : Str)) = false := by decide)
    (he : starEach [.Name y py] X.env = (false, eval (.Name y py) X.env) :: starEach [] X.env := by rfl) (hpl : (backTo pos (starEach [] X.env)).any (·.1) = false := by rfl) :
    PE X (.Call (.Name "len" p) [.Name y py] [] pos) (tE C B W (eLenO i)) := by
  refine PE.imp (pe_callB call_len_seq hg hm PySem.boot_len (pa_cons (pe_var (i := i) hN hv hdy hcy) pa_nil he) (by decide) (by decide) he hpl) fun σ H Q ⟨F0, E, S, p⟩ => ?_
  unfold eLenO at p
  cases e : hold E i with
  | none => rw [e] at p; exact p.elim
  | some d =>
    rw [e] at p
    obtain ⟨a, ha, o⟩ := S.hold e
    cases d with
    | lst xs =>
      obtain ⟨_, vs, hH, rl⟩ := o
      refine ⟨_, ha, a, vs, rfl, .inl (SqL.of hH), ?_⟩
      rw [rl.length]
      exact p _ F0 H S (Same.refl F0) (.int _)
    | _ => exact p.elim
theorem ms_setIx (i : Nat) {k : Expr} (he : PE X e (tE C B W mv)) (hk : PE X k (tE C B W mb)) (hN : X.N[i]? = some y := by rfl) (hv : Vis X.env.scope y := by first | exact Or.inl rfl | exact Or.inr (Or.inl rfl) | exact Or.inr (Or.inr rfl)) (hdy : (y == ("__debug__" : Str)) = false := by decide) (hcy : (y == ("__classdict__" : Str)) = false := by decide)
    (ha : ∀ v, assign (.Subscript (.Name y py) k p) X.env v = (do
      let ov ← holding [v] (eval (.Name y py) X.env)
      let iv ← holding [v, ov] (eval k X.env)
      standAt p
      holding [v, ov, iv] (setItem ov iv v)
      release [v, ov, iv] []) := by intro _; rfl)
    (hs : swapsWithSole [.Subscript (.Name y py) k p] e pos.line X.env = pure false := by rfl) (hw : swappedStores [.Subscript (.Name y py) k p] e X.env = pure none := by rfl)
    (h1 : (assignEach [.Subscript (.Name y py) k p] X.env).map (·.2) = [assign (.Subscript (.Name y py) k p) X.env] := by rfl) : PS X (.Assign [.Subscript (.Name y py) k p] e pos) (tS C B W (sSetIx i mv mb)) := by
  refine PS.imp (ps_asg he (pg_sub (pe_var (i := i) hN hv hdy hcy) hk set_list ha) hs hw h1) fun D σ H ⟨F0, E, S, q⟩ => ?_
  refine sE_go S q fun r E1 v F1 H1 S1 st1 rr p1 => ?_
  obtain ⟨F2, S2, st2, r2⟩ := S1.toSh rr
  cases e1 : hold E1 i with
  | none => rw [e1] at p1; exact p1.elim
  | some d0 =>
    rw [e1] at p1
    dsimp only at p1
    obtain ⟨a, ha, o0⟩ := S2.hold e1
    refine ⟨_, ha, ?_⟩
    refine sE_go S2 (p1.mono st2 fun _ _ z => z) fun kk E3 kv F3 H3 S3 st3 rk p3 => ?_
    obtain ⟨F4, S4, st4, r4⟩ := S3.toSh rk
    cases e3 : hold E3 i with
    | none => rw [e3] at p3; exact p3.elim
    | some d =>
      rw [e3] at p3
      obtain ⟨a', ha', o1⟩ := S4.hold e3
      rw [ha] at ha'; cases ha'
      cases d with
      | lst xs =>
        obtain ⟨nF, vs, hH, rl⟩ := o1
        dsimp only at p3
        cases hkd : kk.d with
        | int j =>
          rw [hkd] at p3 r4
          cases r4
          dsimp only at p3
          cases hx : ixN xs.length j with
          | none => rw [hx] at p3; exact p3.elim
          | some n =>
            rw [hx] at p3
            refine ⟨a, vs, j, n, rfl, rfl, hH, by rw [rl.length]; exact hx, ?_⟩
            have g : Grow (fun c => c = a) F4 H3 F4 (upd H3 a (.lst (vs.set n v))) := ⟨fun c w q n => by rw [upd_ne n]; exact q, fun c q => by
              by_cases z : c = a
              · subst z; rw [upd_same] at q; cases q
              · rw [upd_ne z] at q; exact q, Same.refl F4, fun c w q => by
              rw [upd_ne (fun z => by subst z; rw [nF] at q; cases q)]; exact S4.fh _ _ q, fun c q => .inl q⟩
            have st14 : Same F2 F4 := st3.trans st4
            exact p3 σ F4 _ (S4.putH e3 ha g ⟨nF, _, upd_same, rl.set (r2.mono st14) n⟩) (st1.trans (st2.trans st14))
        | _ => rw [hkd] at p3; exact p3.elim
      | _ => exact p3.elim
end

/-- the heap with one owned list changed -/
theorem grow_upd {F H : Hp} {a : Addr} {o : HO} (st : Same F H) (nF : F a = none) : Grow (fun c => c = a) F H F (upd H a o) :=
  ⟨fun c w q n => by rw [upd_ne n]; exact q, fun c q => by
    by_cases z : c = a
    · subst z; rw [upd_same] at q; cases q
    · rw [upd_ne z] at q; exact q, Same.refl F, fun c w q => by
    rw [upd_ne (fun z => by subst z; rw [nF] at q; cases q)]; exact st _ _ q, fun c q => .inl q⟩
def fAppend (d : D) (ds : List D) : Option (D × D) := match d, ds with
  | .lst xs, [y] => if xs.length < sizeLine then some (.lst (xs ++ [y]), .non) else none
  | _, _ => none
theorem own_append {C : Ctx} : OwnR C rAppend fAppend := by
  intro F H a d vs ds d' rd Q st o r e q
  unfold fAppend at e
  split at e
  · rename_i xs y
    split at e
    · rename_i hl
      cases e
      obtain ⟨nF, ws, hH, rl⟩ := o
      cases r with
      | cons r0 rn =>
        cases rn
        exact ⟨a, ws, _, rfl, rfl, hH, by rw [rl.length]; exact hl, q _ F _ (grow_upd st nF) ⟨nF, _, upd_same, rl.append (.cons r0 .nil)⟩ .non⟩
    · cases e
  · cases e
def fPop (d : D) (ds : List D) : Option (D × D) := match d, ds with
  | .lst xs, [] => (match xs[xs.length - 1]? with | some y => some (.lst xs.dropLast, y) | none => none)
  | _, _ => none
theorem RepL.dropLast {C : Ctx} {F : Hp} {vs : List V} {ds : List D} (r : RepL C F vs ds) : RepL C F vs.dropLast ds.dropLast := by
  rw [List.dropLast_eq_take, List.dropLast_eq_take, r.length]
  exact r.take _
theorem own_pop {C : Ctx} : OwnR C rPop fPop := by
  intro F H a d vs ds d' rd Q st o r e q
  unfold fPop at e
  split at e
  · rename_i xs
    cases hx : xs[xs.length - 1]? with
    | none => rw [hx] at e; cases e
    | some y =>
      rw [hx] at e
      cases e
      obtain ⟨nF, ws, hH, rl⟩ := o
      cases r
      obtain ⟨v, h1, h2⟩ := rl.get hx
      exact ⟨a, ws, v, rfl, rfl, hH, by rw [rl.length]; exact h1, q _ F _ (grow_upd st nF) ⟨nF, _, upd_same, rl.dropLast⟩ h2⟩
  · cases e

/-- xs.extend(ys): a list, a tuple -/
def fExtend (d : D) (ds : List D) : Option (D × D) := match d, ds with
  | .lst xs, [.lst ys] => if xs.length + ys.length ≤ sizeLine then some (.lst (xs ++ ys), .non) else none
  | _, _ => none
theorem own_extend {C : Ctx} : OwnR C rExtend fExtend := by
  intro F H a d vs ds d' rd Q st o r e q
  unfold fExtend at e
  split at e
  · rename_i xs ys
    split at e
    · rename_i hl
      cases e
      obtain ⟨nF, ws, hH, rl⟩ := o
      cases r with
      | cons r0 rn =>
        cases rn
        cases r0 with
        | @lst b zs _ hb rz => exact ⟨a, b, ws, zs, rfl, rfl, hH, st _ _ hb, by rw [rl.length, rz.length]; exact hl, q _ F _ (grow_upd st nF) ⟨nF, _, upd_same, rl.append rz⟩ .non⟩
    · cases e
  · cases e
end MM

/-! MM: comprehensions. -/
namespace MM
open PySem PySem.Spec PyProof.Rows L2

def wipeE (E : Ev) : List Nat → Ev
  | [] => E
  | v :: vs => (wipeE E vs).set v .un
def keepSh (s : Option Sl) : Sl := match s with
  | some (.sh d) => .sh d
  | _ => .un
def restE (E1 : Ev) : List Nat → Ev → Ev
  | [], E2 => E2
  | v :: vs, E2 => (restE E1 vs E2).set v (keepSh E1[v]?)
def lcL (g : Tgt) (mt : M Bool) (me : M RV) (vs : List Nat) : List D → Ev → List D → Out (List D)
  | [], E, acc => .ok acc E
  | d :: ds, E, acc => match g d E with
    | none => .stuck
    | some E1 => match mt E1 with
      | .ok true E2 => (match me E2 with
        | .ok r E3 => if acc.length < sizeLine then lcL g mt me vs ds (wipeE E3 vs) (acc ++ [r.d]) else .stuck
        | _ => .stuck)
      | .ok false E2 => lcL g mt me vs ds (wipeE E2 vs) acc
      | _ => .stuck
def eLc (mi : M (List D)) (g : Tgt) (mt : M Bool) (me : M RV) (vs : List Nat) : M RV := fun E => (mi E).bind fun ds E1 => (lcL g mt me vs ds (wipeE E1 vs) []).bind fun acc E2 => .ok (.fr (.lst acc)) (restE E1 vs E2)
def tTrue : M Bool := fun E => .ok true E
abbrev WNo : WX := fun _ _ _ _ => False

section
variable {C : Ctx} {B : Base} {F F' H H' : Hp} {E E' : Ev} {σ : St}
theorem wipeE_len (E : Ev) : ∀ vs, (wipeE E vs).length = E.length
  | [] => rfl
  | v :: vs => by unfold wipeE; rw [List.length_set, wipeE_len E vs]
theorem wipeE_get {i : Nat} {s : Sl} : ∀ {vs : List Nat}, (wipeE E vs)[i]? = some s → s = .un ∨ (i ∉ vs ∧ E[i]? = some s)
  | [], h => .inr ⟨by simp, h⟩
  | v :: vs, h => by
    unfold wipeE at h
    rw [List.getElem?_set] at h
    split at h
    · split at h
      · cases h; exact .inl rfl
      · cases h
    · rename_i hv
      rcases wipeE_get h with h | ⟨h1, h2⟩
      · exact .inl h
      · exact .inr ⟨by simp only [List.mem_cons, not_or]; exact ⟨fun z => hv z.symm, h1⟩, h2⟩
theorem wipe_get {i : Nat} : ∀ {vs : List Nat}, i ∉ vs → (wipe σ vs)[i]? = σ[i]?
  | [], _ => rfl
  | v :: vs, h => by
    simp only [List.mem_cons, not_or] at h
    unfold wipe
    rw [List.getElem?_set_ne (fun z => h.1 z.symm)]
    exact wipe_get h.2
theorem restE_len (E1 : Ev) (E2 : Ev) : ∀ vs, (restE E1 vs E2).length = E2.length
  | [] => rfl
  | v :: vs => by unfold restE; rw [List.length_set, restE_len E1 E2 vs]
theorem restE_get {E1 E2 : Ev} {i : Nat} {s : Sl} : ∀ {vs : List Nat}, (restE E1 vs E2)[i]? = some s → (s = keepSh E1[i]?) ∨ (i ∉ vs ∧ E2[i]? = some s)
  | [], h => .inr ⟨by simp, h⟩
  | v :: vs, h => by
    unfold restE at h
    rw [List.getElem?_set] at h
    split at h
    · rename_i hv; subst hv
      split at h
      · cases h; exact .inl rfl
      · cases h
    · rename_i hv
      rcases restE_get h with h | ⟨h1, h2⟩
      · exact .inl h
      · exact .inr ⟨by simp only [List.mem_cons, not_or]; exact ⟨fun z => hv z.symm, h1⟩, h2⟩
theorem Sim.wipe (S : Sim C B F H E σ) (vs : List Nat) : Sim C B F H (wipeE E vs) (L2.wipe σ vs) := by
  have back : ∀ (i : Nat) (s : Sl), (wipeE E vs)[i]? = some s → s.own = true → E[i]? = some s ∧ (L2.wipe σ vs)[i]? = σ[i]? := fun i s e o => by
    rcases wipeE_get e with rfl | ⟨h1, h2⟩
    · cases o
    · exact ⟨h2, wipe_get h1⟩
  refine ⟨S.g, by rw [wipe_length, wipeE_len]; exact S.len, fun i s e => ?_, fun i j s t a e1 e2 o1 o2 z1 z2 => ?_, fun a o e => ?_⟩
  · rcases wipeE_get e with rfl | ⟨h1, h2⟩
    · trivial
    · rw [wipe_get h1]; exact S.sl i s h2
  · obtain ⟨p1, p2⟩ := back i s e1 o1
    obtain ⟨q1, q2⟩ := back j t e2 o2
    exact S.sep i j s t a p1 q1 o1 o2 (p2 ▸ z1) (q2 ▸ z2)
  · obtain ⟨h1, h2, h3⟩ := S.pn a o e
    refine ⟨h1, h2, fun i s q os => ?_⟩
    obtain ⟨p1, p2⟩ := back i s q os
    rw [p2]
    exact h3 i s p1 os
/-- the base with one more thing that stays -/
abbrev Base.pinned (B : Base) (a : Addr) (o : HO) : Base := { B with pin := L2.upd B.pin a o }
theorem Sim.unpin {a : Addr} {o : HO} (S : Sim C (B.pinned a o) F H E σ) (hn : B.pin a = none) : Sim C B F H E σ ∧ H a = some o ∧ F a = none ∧ Apart E σ a := by
  refine ⟨⟨S.g, S.len, S.sl, S.sep, fun c w e => S.pn c w ?_⟩, S.pn a o ?_⟩
  · show L2.upd B.pin a o c = some w
    rw [upd_ne (ne_of_none e hn)]
    exact e
  · show L2.upd B.pin a o a = some o
    exact upd_same
theorem Sim.topin {a : Addr} {o : HO} (S : Sim C B F H E σ) (h1 : H a = some o) (h2 : F a = none) (h3 : Apart E σ a) : Sim C (B.pinned a o) F H E σ := by
  refine ⟨S.g, S.len, S.sl, S.sep, fun c w e => ?_⟩
  have e : L2.upd B.pin a o c = some w := e
  by_cases z : c = a
  · subst z; rw [upd_same] at e; cases e; exact ⟨h1, h2, h3⟩
  · rw [upd_ne z] at e; exact S.pn c w e
/-- the pinned list changes -/
theorem Sim.repin {a : Addr} {o o' : HO} (S : Sim C (B.pinned a o) F H E σ) (hn : B.pin a = none) (h0 : B.H0 a = none) : Sim C (B.pinned a o') F (L2.upd H a o') E σ := by
  obtain ⟨S1, h1, h2, h3⟩ := S.unpin hn
  have ne : ∀ c, c ≠ a → (L2.upd H a o') c = H c := fun c z => upd_ne z
  have own : ∀ (i : Nat) (s : Sl) (b : Addr) (d : D), E[i]? = some s → s.own = true → σ[i]? = some (some (.ref b)) → Own C F H b d → Own C F (L2.upd H a o') b d := fun i s b d e os z ob => by
    have nb : b ≠ a := fun q => h3 i s e os (q ▸ z)
    obtain ⟨n, r⟩ := ob
    refine ⟨n, ?_⟩
    rw [ne b nb]
    exact r
  refine ⟨⟨fun c w q nb => ?_, fun c q => ?_, S1.g.fs, fun c w q => ?_, S1.g.nw⟩, S1.len, fun i s e => ?_, S1.sep, fun c w e => ?_⟩
  · have z : c ≠ a := fun z => by subst z; rw [show B.H0 c = none from h0] at q; cases q
    rw [ne c z]; exact S1.g.hs c w q nb
  · by_cases z : c = a
    · subst z; rw [upd_same] at q; cases q
    · rw [ne c z] at q; exact S1.g.bs c q
  · have z : c ≠ a := fun z => by subst z; rw [h2] at q; cases q
    rw [ne c z]; exact S1.fh c w q
  · have x := S1.sl i s e
    cases s with
    | un => trivial
    | sh d => exact x
    | ow d => obtain ⟨b, y1, y2, y3⟩ := x; exact ⟨b, y1, own i _ b d e rfl y1 y2, y3⟩
    | bo d => obtain ⟨b, y1, y2, y3⟩ := x; exact ⟨b, y1, own i _ b d e rfl y1 y2, y3⟩
  · have e : L2.upd B.pin a o' c = some w := e
    by_cases z : c = a
    · subst z; rw [upd_same] at e; cases e; exact ⟨upd_same, h2, h3⟩
    · rw [upd_ne z] at e
      obtain ⟨y1, y2, y3⟩ := S1.pn c w e
      exact ⟨by rw [ne c z]; exact y1, y2, y3⟩
/-- behind the comprehension: the slots as they stand -/
theorem Sim.rest {E1 : Ev} {F1 H1 : Hp} {vs : List Nat} (S1 : Sim C B F1 H1 E1 σ) (S : Sim C B F H (wipeE E vs) (L2.wipe σ vs)) (st : Same F1 F) : Sim C B F H (restE E1 vs (wipeE E vs)) σ := by
  have back : ∀ (i : Nat) (s : Sl), (restE E1 vs (wipeE E vs))[i]? = some s → s.own = true → (wipeE E vs)[i]? = some s ∧ (L2.wipe σ vs)[i]? = σ[i]? := fun i s e o => by
    rcases restE_get e with rfl | ⟨h1, h2⟩
    · unfold keepSh at o
      split at o <;> cases o
    · exact ⟨h2, wipe_get h1⟩
  refine ⟨S.g, by rw [restE_len, ← S.len, wipe_length], fun i s e => ?_, fun i j s t a e1 e2 o1 o2 z1 z2 => ?_, fun a o e => ?_⟩
  · rcases restE_get e with rfl | ⟨h1, h2⟩
    · cases q : E1[i]? with
      | none => trivial
      | some s1 =>
        cases s1 with
        | sh d =>
          obtain ⟨v, y1, y2⟩ := S1.sl i _ q
          exact ⟨v, y1, y2.mono st⟩
        | _ => trivial
    · have := S.sl i s h2
      rw [wipe_get h1] at this
      exact this
  · obtain ⟨p1, p2⟩ := back i s e1 o1
    obtain ⟨q1, q2⟩ := back j t e2 o2
    exact S.sep i j s t a p1 q1 o1 o2 (p2 ▸ z1) (q2 ▸ z2)
  · obtain ⟨h1, h2, h3⟩ := S.pn a o e
    refine ⟨h1, h2, fun i s q os => ?_⟩
    obtain ⟨p1, p2⟩ := back i s q os
    rw [← p2]
    exact h3 i s p1 os
theorem lcL_end {g : Tgt} {mt : M Bool} {me : M RV} {vs : List Nat} : ∀ (ds : List D) (E : Ev) (acc acc' : List D) (E' : Ev), lcL g mt me vs ds (wipeE E vs) acc = .ok acc' E' → ∃ E2, E' = wipeE E2 vs := by
  intro ds
  induction ds with
  | nil => intro E acc acc' E' h; cases h; exact ⟨E, rfl⟩
  | cons d ds ih =>
    intro E acc acc' E' h
    unfold lcL at h
    split at h
    · cases h
    · split at h
      · split at h
        · split at h
          · exact ih _ _ _ _ h
          · cases h
        · cases h
      · exact ih _ _ _ _ h
      · cases h
theorem lcL_noex {g : Tgt} {mt : M Bool} {me : M RV} {vs : List Nat} : ∀ (ds : List D) (E : Ev) (acc : List D) (x : Xc) (E' : Ev), lcL g mt me vs ds E acc ≠ .ex x E' := by
  intro ds
  induction ds with
  | nil => intro E acc x E' h; cases h
  | cons d ds ih =>
    intro E acc x E' h
    unfold lcL at h
    split at h
    · cases h
    · split at h
      · split at h
        · split at h
          · exact ih _ _ _ _ h
          · cases h
        · cases h
      · exact ih _ _ _ _ h
      · cases h
end
/-- the block's scope, as its own frame has it -/
def relabelS (sc1 sc0 : Scope) : Scope := { sc1 with names := sc1.names.map fun (n, k) => if (k == .free && sc0.kind == .function && sc0.names.lookup n == some .cell) then (n, .cell) else (n, k) }
theorem blkOk_1 {N : List Str} {sc0 sc1 sc2 : Scope} {own : List (Str × Nat)} {cl : List (Str × Addr)} {c : Addr} {env : Env} (he : env.scope = sc0) (h : blkC N (relabelS sc1 sc0) sc2 own = true) : BlkOk N (compEnvC sc1 cl c env).scope sc2 own := by
  subst he
  exact blkOk_by h
theorem blkOk_2 {N : List Str} {sc0 sc1 sc2 sc3 : Scope} {own : List (Str × Nat)} {cl cl' : List (Str × Addr)} {c c' : Addr} {env : Env} (he : env.scope = sc0) (h : blkC N (relabelS sc2 (relabelS sc1 sc0)) sc3 own = true) : BlkOk N (compEnvC sc2 cl' c' (compEnvC sc1 cl c env)).scope sc3 own := by
  subst he
  exact blkOk_by h
section
variable {C : Ctx} {B : Base} {W : WX} {X : Cx} {pos : Pos}
theorem mts_nil : PTs X [] (tT C B W tTrue) := ⟨fun pins s σ H Q I ⟨F, E, S, p⟩ => pts_nil.run pins s σ H Q I (p F H S (Same.refl F))⟩
theorem mts_one {c : Expr} {mt : M Bool} (h : PT X c (tT C B W mt)) : PTs X [c] (tT C B W mt) := pts_one h
theorem PE.ex {e : Expr} {m : M RV} (h : ∀ B, PE X e (tE C B W m)) : PE X e (fun σ H Q => ∃ B, tE C B W m σ H Q) := ⟨fun p s σ H Q I ⟨B, w⟩ => (h B).run p s σ H Q I w⟩
theorem PTs.ex {e : List Expr} {m : M Bool} (h : ∀ B, PTs X e (tT C B W m)) : PTs X e (fun σ H Q => ∃ B, tT C B W m σ H Q) := ⟨fun p s σ H Q I ⟨B, w⟩ => (h B).run p s σ H Q I w⟩
theorem PG.ex {e : Expr} {g : Tgt} {js : List Nat} (h : ∀ B, PG X e (tG C B js g)) : PG X e (fun v σ H Q => ∃ B, tG C B js g v σ H Q) := ⟨fun p s σ H v u Q I r ⟨B, w⟩ => (h B).run p s σ H v u Q I r w⟩
theorem wipe_upto {σ σ' : St} {js vs : List Nat} (u : Upto js σ σ') (h : ∀ j ∈ js, j ∈ vs) : L2.wipe σ' vs = L2.wipe σ vs := by
  have at_vs : ∀ (σ : St) (vs : List Nat) (j : Nat), j ∈ vs → (L2.wipe σ vs)[j]? = if j < σ.length then some none else none := by
    intro σ vs j hj
    induction vs with
    | nil => cases hj
    | cons v vs ih =>
      unfold L2.wipe
      rw [List.getElem?_set]
      split
      · rename_i hv; subst hv
        rw [wipe_length]
      · rename_i hv
        exact ih (by rcases List.mem_cons.mp hj with q | q; exact absurd q.symm hv; exact q)
  apply List.ext_getElem?
  intro j
  by_cases hj : j ∈ vs
  · rw [at_vs _ _ _ hj, at_vs _ _ _ hj, u.1]
  · rw [wipe_get hj, wipe_get hj, u.2 j fun z => hj (h j z)]
theorem wipe_wipe (σ : St) (vs : List Nat) : L2.wipe (L2.wipe σ vs) vs = L2.wipe σ vs := by
  refine wipe_upto (js := vs) ⟨wipe_length _ _, fun j hj => wipe_get hj⟩ fun _ z => z
theorem lc_in {σ : St} {H : Hp} {Q : VK} {g : Tgt} {js : List Nat} {mi : M (List D)} {mt : M Bool} {me : M RV} {vs : List Nat} (hjs : ∀ j ∈ js, j ∈ vs) {F : Hp} {E : Ev} (S : Sim C B F H E σ) (p : Post C B W F σ (kE C B F σ Q) (eLc mi g mt me vs E)) :
    Post C B W F σ (fun ds E1 => ∀ J F1 H1, Sim C B F1 H1 E1 σ → Same F F1 → GivesP C B.pin J ds F1 → tLc (fun _ H R => R J H) (fun v σ H Q => ∃ B, tG C B js g v σ H Q) (fun σ H Q => ∃ B, tT C B WNo mt σ H Q) (fun σ H Q => ∃ B, tE C B WNo me σ H Q) vs σ H1 Q) (mi E) := by
  refine p.bind.mono (Same.refl F) fun ds E1 q J F1 H1 S1 st1 gv Dd hD => ?_
  have S1' := S1
  have n0 : B.H0 Dd = none := S1.g.bs Dd hD
  have np : B.pin Dd = none := by
    cases z : B.pin Dd with
    | none => rfl
    | some w => have := (S1.pn Dd w z).1; rw [hD] at this; cases this
  have g1 : Grow NoB F1 H1 F1 (upd H1 Dd (.lst [])) := Grow.newO S1.fh hD
  have ap : Apart E1 σ Dd := fun i s e os z => by
    obtain ⟨a', d', y1, y2, _⟩ := S1.at e os
    rw [z] at y1; cases y1
    obtain ⟨u, hu⟩ := y2.tracked
    rw [hD] at hu; cases hu
  have S2 : Sim C (B.pinned Dd (.lst [])) F1 (upd H1 Dd (.lst [])) E1 σ := (S1.grow g1).topin upd_same (S1.fh.free hD) ap
  -- the end of the walk, from what is left of it
  refine ⟨fun i m H => i + m = ds.length ∧ ∃ (F2 : Hp) (E2 : Ev) (acc : List D) (vacc : List V), Sim C (B.pinned Dd (.lst vacc)) F2 H (wipeE E2 vs) (L2.wipe σ vs) ∧ Same F1 F2 ∧ RepL C F2 vacc acc ∧
      ∃ accE EE, lcL g mt me vs (ds.drop i) (wipeE E2 vs) acc = .ok accE EE ∧ kE C B F σ Q (.fr (.lst accE)) (restE E1 vs EE), ?_, ?_⟩
  · refine ⟨ds.length, Nat.zero_add _, F1, E1, [], [], S2.wipe vs, Same.refl F1, .nil, ?_⟩
    cases hl : lcL g mt me vs ds (wipeE E1 vs) [] with
    | stuck => rw [hl] at q; exact q.elim
    | ex x E2 => exact absurd hl (lcL_noex _ _ _ _ _)
    | ok accE E2 =>
      rw [hl] at q
      exact ⟨accE, E2, hl, q⟩
  · rintro i m H2 ⟨hm, F2, E2, acc, vacc, S2, st2, rl, accE, EE, hl, hq⟩
    obtain ⟨y1, y2⟩ := gv F2 H2 st2 S2.fh fun a o e => ((S2.unpin np).1.pn a o e).1
    by_cases hlt : i < ds.length
    · have hd : ds.drop i = ds[i] :: ds.drop (i + 1) := List.drop_eq_getElem_cons hlt
      rw [hd] at hl
      obtain ⟨z1, z2⟩ := y1 i ds[i] (List.getElem?_eq_getElem hlt)
      unfold lcL at hl
      refine .inr ⟨z1, fun H' => ∃ (F3 : Hp) (E3 : Ev) (acc : List D) (vacc : List V), Sim C (B.pinned Dd (.lst vacc)) F3 H' (wipeE E3 vs) (L2.wipe σ vs) ∧ Same F1 F3 ∧ RepL C F3 vacc acc ∧
          ∃ accE EE, lcL g mt me vs (ds.drop (i + 1)) (wipeE E3 vs) acc = .ok accE EE ∧ kE C B F σ Q (.fr (.lst accE)) (restE E1 vs EE), fun H' h' => ⟨m - 1, by omega, by omega, h'⟩, fun x H' y => ?_⟩
      obtain ⟨F3, gr, r3⟩ := z2 x H' y
      have S3 := S2.grow gr
      cases hgd : g ds[i] (wipeE E2 vs) with
      | none => rw [hgd] at hl; cases hl
      | some E3 =>
        rw [hgd] at hl
        dsimp only at hl
        refine ⟨_, F3, wipeE E2 vs, ds[i], E3, S3, r3, hgd, fun σ4 F4 H4 S4 st4 u4 => ?_⟩
        have hw : L2.wipe σ4 vs = L2.wipe σ vs := by rw [wipe_upto u4 hjs, wipe_wipe]
        refine ⟨hw, ?_⟩
        have st24 : Same F2 F4 := gr.fs.trans st4
        refine ⟨_, F4, E3, S4, ?_⟩
        cases ht : mt E3 with
        | stuck => rw [ht] at hl; cases hl
        | ex x E4 => rw [ht] at hl; cases hl
        | ok b E4 =>
          rw [ht] at hl
          cases b with
          | false =>
            intro F5 H5 S5 st5
            dsimp only at hl
            rw [if_neg Bool.false_ne_true]
            refine ⟨F5, E4, acc, vacc, ?_, st2.trans (st24.trans st5), rl.mono (st24.trans st5), accE, EE, hl, hq⟩
            rw [← hw]
            exact S5.wipe vs
          | true =>
            intro F5 H5 S5 st5
            dsimp only at hl
            rw [if_pos rfl]
            refine ⟨_, F5, E4, S5, ?_⟩
            cases he : me E4 with
            | stuck => rw [he] at hl; cases hl
            | ex x E5 => rw [he] at hl; cases hl
            | ok r E5 =>
              rw [he] at hl
              dsimp only at hl
              split at hl
              · rename_i hz
                intro v F6 H6 S6 st6 rr
                obtain ⟨F7, S7, st7, r7⟩ := S6.toSh rr
                obtain ⟨_, hH, hF, hap⟩ := S7.unpin np
                have st27 : Same F2 F7 := st24.trans (st5.trans (st6.trans st7))
                refine ⟨vacc, hH, by rw [rl.length]; exact hz, F7, E5, acc ++ [r.d], vacc ++ [v], ?_, st2.trans st27, (rl.mono st27).append (.cons r7 .nil), accE, EE, hl, hq⟩
                have S8 := S7.repin (o' := .lst (vacc ++ [v])) np n0
                rw [← hw]
                exact S8.wipe vs
              · cases hl
    · have e : i = ds.length := by omega
      subst e
      rw [List.drop_length] at hl
      cases hl
      refine .inl ⟨y2, ?_⟩
      obtain ⟨S3, hH, hF, hap⟩ := S2.unpin np
      have S4 := Sim.rest S1' S3 st2
      refine hq (.ref Dd) F2 H2 S4 (st1.trans st2) ⟨Dd, rfl, ⟨hF, vacc, hH, rl⟩, n0, fun i s e os z => ?_, np⟩
      rcases restE_get e with rfl | ⟨h1, h2⟩
      · unfold keepSh at os
        split at os <;> cases os
      · exact hap i s h2 os (by rw [wipe_get h1]; exact z)
theorem lc_go {σ : St} {H : Hp} {Q : VK} {g : Tgt} {js : List Nat} {mi : M (List D)} {mt : M Bool} {me : M RV} {vs : List Nat} (hjs : ∀ j ∈ js, j ∈ vs) (t : tE C B W (eLc mi g mt me vs) σ H Q) :
    tLc (tI C B W mi) (fun v σ H Q => ∃ B, tG C B js g v σ H Q) (fun σ H Q => ∃ B, tT C B WNo mt σ H Q) (fun σ H Q => ∃ B, tE C B WNo me σ H Q) vs σ H Q := by
  obtain ⟨F, E, S, p⟩ := t
  exact ⟨F, E, S, lc_in hjs S p⟩
theorem me_lc {elt tg iter : Expr} {ifs : List Expr} {scope : Scope} (own : List (Str × Nat)) {g : Tgt} {js : List Nat} {mi : M (List D)} {mt : M Bool} {me : M RV} (hc : X.calm = true) (hN : X.N.Nodup) (hi : PI X tg iter (tI C B W mi)) (ok : BlkOk X.N X.env.scope scope own)
    (hg : ∀ (s : Shared) (H : Hp) (c : Addr) (cl : List (Str × Addr)) (fp : List Addr) (B : Base), PG (X.blk s H scope (compEnvC scope cl c X.env) fp) tg (tG C B js g)) (ht : ∀ (s : Shared) (H : Hp) (c : Addr) (cl : List (Str × Addr)) (fp : List Addr) (B : Base), PTs (X.blk s H scope (compEnvC scope cl c X.env) fp) ifs (tT C B WNo mt))
    (he : ∀ (s : Shared) (H : Hp) (c : Addr) (cl : List (Str × Addr)) (fp : List Addr) (B : Base), PE (X.blk s H scope (compEnvC scope cl c X.env) fp) elt (tE C B WNo me)) (hjs : ∀ j ∈ js, j ∈ own.map (·.2) := by decide) (hs : ∀ x, foldedSetIterable iter X.env x = pure x := by intro _; rfl) :
    PE X (.ListComp elt [⟨tg, iter, ifs, 0⟩] scope pos) (tE C B W (eLc mi g mt me (own.map (·.2)))) :=
  PE.imp (pe_lc hc hN hi ok (fun s H c cl fp => PG.ex (hg s H c cl fp)) (fun s H c cl fp => PTs.ex (ht s H c cl fp)) (fun s H c cl fp => PE.ex (he s H c cl fp)) hs) fun σ H Q t => lc_go hjs t
theorem ms_setLc {i : Nat} {y : Str} {py spos : Pos} {elt tg iter : Expr} {ifs : List Expr} {scope : Scope} (own : List (Str × Nat)) {g : Tgt} {js : List Nat} {mi : M (List D)} {mt : M Bool} {me : M RV} (hc : X.calm = true) (hN : X.N.Nodup) (hy : X.N[i]? = some y) (hyl : X.env.scope.names.lookup y = some .local)
    (hsw : swapsWith (.ListComp elt [⟨tg, iter, ifs, 0⟩] scope pos) (some (.Name y py)) spos.line X.env = pure true) (hi : PI X tg iter (tI C B W mi)) (ok : BlkOk X.N X.env.scope scope own)
    (hg : ∀ (s : Shared) (H : Hp) (c : Addr) (cl : List (Str × Addr)) (fp : List Addr) (B : Base), PG (X.blk s H scope (compEnvC scope cl c X.env) fp) tg (tG C B js g)) (ht : ∀ (s : Shared) (H : Hp) (c : Addr) (cl : List (Str × Addr)) (fp : List Addr) (B : Base), PTs (X.blk s H scope (compEnvC scope cl c X.env) fp) ifs (tT C B WNo mt))
    (he : ∀ (s : Shared) (H : Hp) (c : Addr) (cl : List (Str × Addr)) (fp : List Addr) (B : Base), PE (X.blk s H scope (compEnvC scope cl c X.env) fp) elt (tE C B WNo me)) (hjs : ∀ j ∈ js, j ∈ own.map (·.2) := by decide) (hs : ∀ x, foldedSetIterable iter X.env x = pure x := by intro _; rfl) :
    PS X (.Assign [.Name y py] (.ListComp elt [⟨tg, iter, ifs, 0⟩] scope pos) spos) (tS C B W (sAsg i (eLc mi g mt me (own.map (·.2))))) := by
  refine PS.imp (ps_setLc hc hN hy hyl hsw hi ok (fun s H c cl fp => PG.ex (hg s H c cl fp)) (fun s H c cl fp => PTs.ex (ht s H c cl fp)) (fun s H c cl fp => PE.ex (he s H c cl fp)) hs) fun D σ H ⟨F, E, S, p⟩ => ?_
  refine lc_go hjs (Q := fun x H1 => gName i x σ H1 D.nx) (B := B) (W := W) ?_
  refine sE_go S p fun r E1 v F1 H1 S1 st1 rr p1 => ?_
  have q := setR i S1 rr
  cases r with
  | sh d => exact p1 _ F1 H1 q st1
  | fr d => exact p1 _ F1 H1 q st1
end
end MM

/-! MM: built-in operations by values. -/
namespace MM
open PySem PySem.Spec PyProof.Rows L2
section
variable {C : Ctx} {X : Cx}
theorem Rep.int_inv {F : Hp} {v : V} {i : Int} (r : Rep C F v (.int i)) : v = .int i := by cases r; rfl
/-! ### arithmetic -/
def mulOk (i j : Int) : Bool := decide (-(2 ^ 64) < i ∧ i < 2 ^ 64) || decide (-(2 ^ 64) < j ∧ j < 2 ^ 64) || decide (i.natAbs.log2 + j.natAbs.log2 < 1000000)
theorem mulOk_ok {i j : Int} (h : mulOk i j = true) : IntMulOk i j := by
  unfold mulOk at h
  simp only [Bool.or_eq_true, decide_eq_true_eq] at h
  rcases h with (h | h) | h
  · exact CMul.ok (.inl h)
  · exact CMul.ok (.inr h)
  · exact CMulW.ok h
theorem op_mulX : OpR X (binaryOp .Mult) (rI IntMulOk fun i j => .int (i * j)) := opI fun _ _ _ _ _ _ _ hc q => mul_int q hc
def fdivOk (i j : Int) : Bool := decide (j ≠ 0) && !Builtin.divisionGoesByPylong i j
theorem fdivOk_log {i j : Int} (h0 : j ≠ 0) (h : j.natAbs.log2 < 9000) : fdivOk i j = true := by
  unfold fdivOk
  rw [decide_eq_true h0, PyProof.noPylong_of_log2 h]
  rfl
def CDivX (i j : Int) : Prop := fdivOk i j = true
theorem op_fdivX : OpR X (binaryOp .FloorDiv) (rI CDivX fun i j => .int (i.fdiv j)) := opI fun i j _ _ _ _ _ hc q => by
  have hc : fdivOk i j = true := hc
  unfold fdivOk at hc
  rw [Bool.and_eq_true] at hc
  have h2 : Builtin.divisionGoesByPylong i j = false := by simpa using hc.2
  exact floordiv_int (of_decide_eq_true hc.1) q (.inl h2)
def fAdd (a b : D) : Option RV := match a, b with
  | .int i, .int j => some (.sh (.int (i + j)))
  | .tup xs, .tup ys => if xs.length + ys.length ≤ sizeLine then some (.sh (.tup (xs ++ ys))) else none
  | .lst xs, .lst ys => if xs.length + ys.length ≤ sizeLine then some (.fr (.lst (xs ++ ys))) else none
  | .str x, .str y => if x.length + y.length ≤ sizeLine then some (.sh (.str (x ++ y))) else none
  | _, _ => none
def rAddX (K : PySem.W.Frag) : R2 := fun x y H Q => rI0 (fun i j => .int (i + j)) x y H Q ∨ rCatA K x y H Q ∨ rCat x y H Q ∨ (∃ i j, x = .str i ∧ y = .str j ∧ i.length + j.length ≤ sizeLine ∧ Q (.str (i ++ j)) H)
theorem op_addX : OpR X (binaryOp .Add) (rAddX X.K) := op_add.or (op_catA.or (op_cat.or op_add_str))
theorem p_add (hK : X.K = C.K) : Pure2 C (rAddX X.K) fAdd := by
  intro F H x y dx dy R Q st rx ry e q
  unfold fAdd at e
  split at e
  · cases e; cases rx; cases ry
    exact .inl ⟨_, _, rfl, rfl, NewR.same st (.int _) q⟩
  · split at e
    · rename_i hl
      cases e
      cases rx with
      | @tup a vs ds hs hr =>
        cases ry with
        | @tup b ws es hs2 hr2 =>
          refine .inr (.inl ⟨a, b, vs, ws, rfl, rfl, by rw [hK]; exact SqT_mono st hs, by rw [hK]; exact SqT_mono st hs2, by rw [hr.length, hr2.length]; exact hl, fun z => ?_, fun z z2 => ?_, fun _ _ p hp => ?_⟩)
          · subst z; cases hr
            exact NewR.same st (.tup hs2 hr2) q
          · subst z2; cases hr2
            rw [List.append_nil] at q
            exact NewR.same st (.tup hs hr) q
          · obtain ⟨g, n⟩ := newT st (hr.append hr2) hp
            exact q _ _ _ g n
    · cases e
  · split at e
    · rename_i hl
      cases e
      cases rx with
      | @lst a vs ds hs hr =>
        cases ry with
        | @lst b ws es hs2 hr2 =>
          refine .inr (.inr (.inl ⟨a, b, vs, ws, rfl, rfl, st _ _ hs, st _ _ hs2, by rw [hr.length, hr2.length]; exact hl, fun p hp => ?_⟩))
          obtain ⟨g, n⟩ := newL st (hr.append hr2) hp
          exact q _ _ _ g n
    · cases e
  · split at e
    · rename_i hl
      cases e; cases rx; cases ry
      exact .inr (.inr (.inr ⟨_, _, rfl, rfl, hl, NewR.same st (.str _) q⟩))
    · cases e
  · cases e
def fInt2 (c : Int → Int → Bool) (g : Int → Int → Int) (a b : D) : Option RV := match a, b with
  | .int i, .int j => if c i j = true then some (.sh (.int (g i j))) else none
  | _, _ => none
theorem p_int2 {Cc : Int → Int → Prop} {c : Int → Int → Bool} {g : Int → Int → Int} (h : ∀ i j, c i j = true → Cc i j) : Pure2 C (rI Cc fun i j => .int (g i j)) (fInt2 c g) := by
  intro F H x y dx dy R Q st rx ry e q
  unfold fInt2 at e
  split at e
  · split at e
    · rename_i hc
      cases e; cases rx; cases ry
      exact ⟨_, _, rfl, rfl, h _ _ hc, NewR.same st (.int _) q⟩
    · cases e
  · cases e
abbrev fSub := fInt2 (fun _ _ => true) fun i j => i - j
abbrev fMulI := fInt2 mulOk fun i j => i * j
abbrev fFdiv := fInt2 fdivOk Int.fdiv
abbrev fMod := fInt2 (fun _ j => decide (j ≠ 0)) Int.fmod
theorem op_subX : OpR X (binaryOp .Sub) (rI (fun _ _ => True) fun i j => .int (i - j)) := opI fun _ _ _ _ _ _ _ _ q => sub_int q
theorem p_sub : Pure2 C (rI (fun _ _ => True) fun i j => .int (i - j)) fSub := p_int2 fun _ _ _ => trivial
theorem p_mul : Pure2 C (rI IntMulOk fun i j => .int (i * j)) fMulI := p_int2 fun _ _ h => mulOk_ok h
theorem p_fdiv : Pure2 C (rI CDivX fun i j => .int (i.fdiv j)) fFdiv := p_int2 fun _ _ h => h
theorem p_mod : Pure2 C (rI (fun _ j => j ≠ 0) fun i j => .int (i.fmod j)) fMod := p_int2 fun _ _ h => of_decide_eq_true h
def fNeg (a : D) : Option RV := match a with
  | .int i => some (.sh (.int (-i)))
  | _ => none
theorem p_neg : Pure1 C (rU fun i => .int (-i)) fNeg := by
  intro F H x dx R Q st rx e q
  unfold fNeg at e
  split at e
  · cases e; cases rx
    exact ⟨_, rfl, NewR.same st (.int _) q⟩
  · cases e
/-! ### comparisons -/
def cLt (a b : D) : Option Bool := match a, b with
  | .int i, .int j => some (decide (i < j))
  | _, _ => none
def cLe (a b : D) : Option Bool := match a, b with
  | .int i, .int j => some (decide (i ≤ j))
  | _, _ => none
def cGt (a b : D) : Option Bool := match a, b with
  | .int i, .int j => some (decide (j < i))
  | _, _ => none
def cGe (a b : D) : Option Bool := match a, b with
  | .int i, .int j => some (decide (j ≤ i))
  | _, _ => none
theorem p_lt : PureC C (rI0 fun i j => .bl (decide (i < j))) cLt := by
  intro F H x y dx dy k Q st rx ry e q
  unfold cLt at e
  split at e
  · cases e; cases rx; cases ry; exact ⟨_, _, rfl, rfl, q⟩
  · cases e
theorem p_le : PureC C (rI0 fun i j => .bl (decide (i ≤ j))) cLe := by
  intro F H x y dx dy k Q st rx ry e q
  unfold cLe at e
  split at e
  · cases e; cases rx; cases ry; exact ⟨_, _, rfl, rfl, q⟩
  · cases e
theorem p_gt : PureC C (rI0 fun i j => .bl (decide (j < i))) cGt := by
  intro F H x y dx dy k Q st rx ry e q
  unfold cGt at e
  split at e
  · cases e; cases rx; cases ry; exact ⟨_, _, rfl, rfl, q⟩
  · cases e
theorem p_ge : PureC C (rI0 fun i j => .bl (decide (j ≤ i))) cGe := by
  intro F H x y dx dy k Q st rx ry e q
  unfold cGe at e
  split at e
  · cases e; cases rx; cases ry; exact ⟨_, _, rfl, rfl, q⟩
  · cases e
mutual
def toPy : D → Option PyData
  | .non => some .none
  | .bl b => some (.bool b)
  | .int i => some (.int i)
  | .str x => some (.str x)
  | .tup xs => (toPyL xs).map .tuple
  | .lst xs => (toPyL xs).map .list
  | _ => none
def toPyL : List D → Option (List PyData)
  | [] => some []
  | d :: ds => match toPy d, toPyL ds with
    | some p, some ps => some (p :: ps)
    | _, _ => none
end
mutual
theorem dp_of {K : PySem.W.Frag} (hK : K = C.K) {F H : Hp} (st : Same F H) : ∀ (d : D) (v : V) (p : PyData), Rep C F v d → toPy d = some p → Dp K H v p
  | .non, _, _, r, e => by cases r; simp only [toPy] at e; cases e; exact .non
  | .bl b, _, _, r, e => by cases r; simp only [toPy] at e; cases e; exact .bl b
  | .int i, _, _, r, e => by cases r; simp only [toPy] at e; cases e; exact .int i
  | .str x, _, _, r, e => by cases r; simp only [toPy] at e; cases e; exact .str x
  | .tup xs, _, _, r, e => by
    simp only [toPy] at e
    obtain ⟨ps, e1, rfl⟩ := Option.map_eq_some_iff.mp e
    cases r with
    | tup hs hr => exact .tup (by rw [hK]; exact SqT_mono st hs) (dpL_of hK st xs _ ps hr e1)
  | .lst xs, _, _, r, e => by
    simp only [toPy] at e
    obtain ⟨ps, e1, rfl⟩ := Option.map_eq_some_iff.mp e
    cases r with
    | lst hs hr => exact .lst (SqL.of (st _ _ hs)) (dpL_of hK st xs _ ps hr e1)
  | .gl _, _, _, _, e => by simp only [toPy] at e; cases e
  | .ty _, _, _, _, e => by simp only [toPy] at e; cases e
  | .scr _, _, _, _, e => by simp only [toPy] at e; cases e
  | .obj _ _, _, _, _, e => by simp only [toPy] at e; cases e
  | .dic _, _, _, _, e => by simp only [toPy] at e; cases e
theorem dpL_of {K : PySem.W.Frag} (hK : K = C.K) {F H : Hp} (st : Same F H) : ∀ (ds : List D) (vs : List V) (ps : List PyData), RepL C F vs ds → toPyL ds = some ps → DpAll K H vs ps
  | [], _, _, r, e => by cases r; simp only [toPyL] at e; cases e; exact .nil
  | d :: ds, _, _, r, e => by
    simp only [toPyL] at e
    cases e1 : toPy d with
    | none => rw [e1] at e; cases e
    | some p =>
      cases e2 : toPyL ds with
      | none => rw [e1, e2] at e; cases e
      | some ps =>
        rw [e1, e2] at e; cases e
        cases r with
        | cons r1 r2 => exact .cons (dp_of hK st d _ p r1 e1) (dpL_of hK st ds _ ps r2 e2)
end
def cEq (a b : D) : Option Bool := match toPy a, toPy b with
  | some p, some q => if SeqAt.shaped p = true ∧ SeqAt.shaped q = true then some (PyData.eqv p q) else none
  | _, _ => none
def cNe (a b : D) : Option Bool := (cEq a b).map not
theorem cEq_inv {a b : D} {k : Bool} (h : cEq a b = some k) : ∃ p q, toPy a = some p ∧ toPy b = some q ∧ SeqAt.shaped p = true ∧ SeqAt.shaped q = true ∧ k = PyData.eqv p q := by
  unfold cEq at h
  split at h
  · split at h
    · rename_i hs; cases h; exact ⟨_, _, by assumption, by assumption, hs.1, hs.2, rfl⟩
    · cases h
  · cases h
theorem p_eq (hK : X.K = C.K) : PureC C (rEqD X.K) cEq := by
  intro F H x y dx dy k Q st rx ry e q
  obtain ⟨p, p', e1, e2, s1, s2, rfl⟩ := cEq_inv e
  exact ⟨p, p', dp_of hK st dx x p rx e1, dp_of hK st dy y p' ry e2, s1, s2, q⟩
theorem p_ne (hK : X.K = C.K) : PureC C (rNeD X.K) cNe := by
  intro F H x y dx dy k Q st rx ry e q
  unfold cNe at e
  obtain ⟨b, e0, rfl⟩ := Option.map_eq_some_iff.mp e
  obtain ⟨p, p', e1, e2, s1, s2, rfl⟩ := cEq_inv e0
  exact ⟨p, p', dp_of hK st dx x p rx e1, dp_of hK st dy y p' ry e2, s1, s2, q⟩
/-- x is None -/
def cIsN (a b : D) : Option Bool := match b with
  | .non => (match a with | .non => some true | _ => some false)
  | _ => none
def cNotN (a b : D) : Option Bool := (cIsN a b).map not
theorem non_iff {F : Hp} {x : V} {d : D} (r : Rep C F x d) : decide (x = .non) = (match d with | .non => true | _ => false) := by
  cases r <;> rfl
theorem p_isN : PureC C (fun x y H Q => y = .non ∧ Q (.bl (decide (x = .non))) H) cIsN := by
  intro F H x y dx dy k Q st rx ry e q
  unfold cIsN at e
  split at e
  · cases ry
    refine ⟨rfl, ?_⟩
    rw [non_iff rx]
    split at e <;> cases e
    · exact q
    · rename_i h
      split
      · exact absurd rfl h
      · exact q
  · cases e
theorem p_notN : PureC C (fun x y H Q => y = .non ∧ Q (.bl (!decide (x = .non))) H) cNotN := by
  intro F H x y dx dy k Q st rx ry e q
  unfold cNotN at e
  obtain ⟨b, e0, rfl⟩ := Option.map_eq_some_iff.mp e
  unfold cIsN at e0
  split at e0
  · cases ry
    refine ⟨rfl, ?_⟩
    rw [non_iff rx]
    split at e0 <;> cases e0
    · exact q
    · rename_i h
      split
      · exact absurd rfl h
      · exact q
  · cases e0
/-! ### in, of flat things -/
def flatD : D → Bool
  | .non => true
  | .bl _ => true
  | .int _ => true
  | .str _ => true
  | _ => false
def eqD : D → D → Bool
  | .non, .non => true
  | .bl a, .bl b => a == b
  | .bl a, .int b => (if a then 1 else 0) == b
  | .int a, .bl b => a == (if b then 1 else 0)
  | .int a, .int b => a == b
  | .str a, .str b => a == b
  | _, _ => false
def elems : D → Option (List D)
  | .lst ds => some ds
  | .tup ds => some ds
  | _ => none
def cIn (a b : D) : Option Bool := match elems b with
  | some ds => if flatD a = true ∧ ds.all flatD = true then some (ds.any fun y => eqD y a) else none
  | none => none
def cNotIn (a b : D) : Option Bool := (cIn a b).map not
theorem flat_of {F : Hp} {x : V} {d : D} (r : Rep C F x d) (h : flatD d = true) : flatV x = true := by
  cases r <;> first | rfl | cases h
theorem flats_of {F : Hp} : ∀ {vs : List V} {ds : List D}, RepL C F vs ds → ds.all flatD = true → vs.all flatV = true
  | _, _, .nil, _ => rfl
  | _, _, .cons r rr, h => by
    rw [List.all_cons, Bool.and_eq_true] at h
    rw [List.all_cons, flat_of r h.1, flats_of rr h.2]
    rfl
theorem eq_of {F : Hp} {x y : V} {d e : D} (r : Rep C F x d) (r2 : Rep C F y e) (h : flatD d = true) (h2 : flatD e = true) : eqV y x = eqD e d := by
  cases r <;> first | (cases h; done) | (cases r2 <;> first | (cases h2; done) | rfl)
theorem in_of {F : Hp} {x : V} {d : D} (r : Rep C F x d) (h : flatD d = true) : ∀ {vs : List V} {ds : List D}, RepL C F vs ds → ds.all flatD = true → inV x vs = ds.any fun y => eqD y d
  | _, _, .nil, _ => rfl
  | _, _, .cons r2 rr, h2 => by
    rw [List.all_cons, Bool.and_eq_true] at h2
    have := in_of r h rr h2.2
    unfold inV at this ⊢
    rw [List.any_cons, List.any_cons, this, eq_of r r2 h h2.1]
theorem elems_of {F H : Hp} {x : V} {d : D} {ds : List D} (st : Same F H) (r : Rep C F x d) (h : elems d = some ds) : ∃ p vs, x = .ref p ∧ (SqL C.K H p vs ∨ SqT C.K H p vs) ∧ RepL C F vs ds := by
  cases r <;> first | (cases h; done) | skip
  · cases h
    rename_i hs hr
    exact ⟨_, _, rfl, .inr (SqT_mono st hs), hr⟩
  · cases h
    rename_i hs hr
    exact ⟨_, _, rfl, .inl (SqL.of (st _ _ hs)), hr⟩
theorem cIn_inv {a b : D} {k : Bool} (h : cIn a b = some k) : ∃ ds, elems b = some ds ∧ flatD a = true ∧ ds.all flatD = true ∧ k = ds.any fun y => eqD y a := by
  unfold cIn at h
  split at h
  · split at h
    · rename_i hs; cases h; exact ⟨_, by assumption, hs.1, hs.2, rfl⟩
    · cases h
  · cases h
theorem p_in (hK : X.K = C.K) : PureC C (rIn X.K false) cIn := by
  intro F H x y dx dy k Q st rx ry e q
  obtain ⟨ds, e1, f1, f2, rfl⟩ := cIn_inv e
  obtain ⟨p, vs, rfl, hs, hr⟩ := elems_of st ry e1
  refine ⟨p, vs, rfl, by rw [hK]; exact hs, flat_of rx f1, flats_of hr f2, ?_⟩
  rw [in_of rx f1 hr f2]
  exact q
theorem p_notIn (hK : X.K = C.K) : PureC C (rIn X.K true) cNotIn := by
  intro F H x y dx dy k Q st rx ry e q
  unfold cNotIn at e
  obtain ⟨b, e0, rfl⟩ := Option.map_eq_some_iff.mp e
  obtain ⟨ds, e1, f1, f2, rfl⟩ := cIn_inv e0
  obtain ⟨p, vs, rfl, hs, hr⟩ := elems_of st ry e1
  refine ⟨p, vs, rfl, by rw [hK]; exact hs, flat_of rx f1, flats_of hr f2, ?_⟩
  rw [in_of rx f1 hr f2]
  exact q
/-! ### subscripts, slices -/
def fIx (a b : D) : Option RV := match elems a, b with
  | some ds, .int k => (atI ds k).map .sh
  | _, _ => none
theorem atI_rep {F : Hp} {vs : List V} {ds : List D} {k : Int} {d : D} (r : RepL C F vs ds) (h : atI ds k = some d) : ∃ v, atI vs k = some v ∧ Rep C F v d := by
  unfold atI at h ⊢
  obtain ⟨n, h1, h2⟩ := Option.bind_eq_some_iff.mp h
  obtain ⟨v, h3, h4⟩ := r.get h2
  refine ⟨v, ?_, h4⟩
  rw [r.length, h1]
  exact h3
theorem p_ix (hK : X.K = C.K) : Pure2 C (rIx X.K) fIx := by
  intro F H x y dx dy R Q st rx ry e q
  unfold fIx at e
  split at e
  · rename_i ds k e1
    obtain ⟨d, e2, rfl⟩ := Option.map_eq_some_iff.mp e
    cases ry
    obtain ⟨p, vs, rfl, hs, hr⟩ := elems_of st rx e1
    obtain ⟨v, h1, h2⟩ := atI_rep hr e2
    rcases hs with hs | hs
    · exact .inl ⟨p, vs, k, v, rfl, rfl, by rw [hK]; exact hs, h1, NewR.same st h2 q⟩
    · exact .inr (.inl ⟨p, vs, k, v, rfl, rfl, by rw [hK]; exact hs, h1, NewR.same st h2 q⟩)
  · cases e
def cutD (xs : List D) (lo hi : Option Int) : List D := (xs.drop (HT.sIx xs.length 0 lo)).take (HT.sIx xs.length xs.length hi - HT.sIx xs.length 0 lo)
theorem cut_rep {F : Hp} {vs : List V} {ds : List D} (r : RepL C F vs ds) (lo hi : Option Int) : RepL C F (cutV vs lo hi) (cutD ds lo hi) := by
  unfold cutV cutD
  rw [r.length]
  exact (r.drop _).take _
theorem cutD_whole {ds : List D} {lo hi : Option Int} (h : HT.sIx ds.length 0 lo = 0 ∧ HT.sIx ds.length ds.length hi = ds.length) : cutD ds lo hi = ds := by
  unfold cutD
  rw [h.1, h.2, List.drop_zero, Nat.sub_zero, List.take_length]
/-- a[lo:hi] -/
def fSl (a : D) (lo hi : Option Int) : Option RV := match a with
  | .tup ds => some (.sh (.tup (cutD ds lo hi)))
  | .lst ds => some (.fr (.lst (cutD ds lo hi)))
  | .scr ds => some (.fr (.lst (cutD ds lo hi)))
  | _ => none
def optM (o : Option (M RV)) : M (Option Int) := fun E => match o with
  | none => .ok none E
  | some m => (m E).bind fun r E1 => match r.d with
    | .int i => .ok (some i) E1
    | _ => .stuck
def eSl (ma : M RV) (lo hi : Option (M RV)) : M RV := fun E => (ma E).bind fun a E1 => (optM lo E1).bind fun l E2 => (optM hi E2).bind fun h E3 => liftO (fSl a.d l h) E3
end
section
variable {C : Ctx} {B : Base} {W : WX} {X : Cx} {pos p2 : Pos} {a : Expr} {ma : M RV} {lo hi : Option Expr} {ml mh : Option (M RV)}
def tO (C : Ctx) (B : Base) (W : WX) (m : Option (M RV)) : TO := fun σ H Q => ∃ F E, Sim C B F H E σ ∧ Post C B W F σ (fun o E' => ∀ F' H', Sim C B F' H' E' σ → Same F F' → Q o H') (optM m E)
theorem mo_none : PO X none (tO C B W none) := ⟨fun pins s σ H Q I ⟨F, E, S, p⟩ => po_none.run pins s σ H Q I (p F H S (Same.refl F))⟩
theorem mo_some (h : PE X a (tE C B W ma)) : PO X (some a) (tO C B W (some ma)) := ⟨fun pins s σ H Q I ⟨F, E, S, p⟩ => (po_some h).run pins s σ H Q I (by
  refine tE_go S p fun r E1 v F1 H1 S1 st1 r1 p1 => ?_
  cases hd : r.d with
  | int i => rw [hd] at p1 r1; cases r1; exact ⟨i, rfl, p1 F1 H1 S1 st1⟩
  | _ => rw [hd] at p1; exact p1.elim)⟩
theorem tO_go {m : Option (M RV)} {α : Type} {K : α → Ev → Prop} {f : Option Int → Ev → Out α} {Q : Option Int → Hp → Prop} {F H : Hp} {E : Ev} {σ : St} (S : Sim C B F H E σ) (p : Post C B W F σ K ((optM m E).bind f))
    (h : ∀ (k : Option Int) (E1 : Ev) (F1 H1 : Hp), Sim C B F1 H1 E1 σ → Same F F1 → Post C B W F1 σ K (f k E1) → Q k H1) : tO C B W m σ H Q :=
  ⟨F, E, S, p.bind.mono (Same.refl F) fun k E1 q F1 H1 S1 st => h k E1 F1 H1 S1 st (q.mono st fun _ _ z => z)⟩
theorem me_sl (hK : X.K = C.K) (ha : PE X a (tE C B W ma)) (hl : PO X lo (tO C B W ml)) (hh : PO X hi (tO C B W mh)) : PE X (.Subscript a (.Slice lo hi none p2) pos) (tE C B W (eSl ma ml mh)) := by
  refine PE.imp (pe_slice (sl_list.or sl_tupA) ha hl hh) fun σ H Q ⟨F, E, S, p⟩ => ?_
  refine tE_go S p fun ra E1 x F1 H1 S1 st1 r1 p1 => ?_
  refine tO_go S1 p1 fun l E2 F2 H2 S2 st2 p2 => ?_
  refine tO_go S2 p2 fun h E3 F3 H3 S3 st3 p3 => ?_
  obtain ⟨R, e, q⟩ := kE_new S3 (st1.trans (st2.trans st3)) p3
  have r3 := r1.mono (st2.trans st3)
  cases hd : ra.d with
  | tup ds =>
    rw [hd] at e r3; cases e
    cases r3 with
    | @tup a vs ds hs hr =>
      refine .inr ⟨a, vs, rfl, by rw [hK]; exact SqT_mono S3.fh hs, fun hw => ?_, fun _ p hp => ?_⟩
      · rw [hr.length] at hw
        rw [cutD_whole hw] at q
        exact NewR.same S3.fh (.tup hs hr) q
      · obtain ⟨g, n⟩ := newT S3.fh (cut_rep hr l h) hp
        exact q _ _ _ g n
  | lst ds =>
    rw [hd] at e r3; cases e
    cases r3 with
    | @lst a vs ds hs hr =>
      refine .inl ⟨a, vs, rfl, SqL.of (S3.fh _ _ hs), fun p hp => ?_⟩
      obtain ⟨g, n⟩ := newL S3.fh (cut_rep hr l h) hp
      exact q _ _ _ g n
  | scr ds =>
    rw [hd] at e r3; cases e
    cases r3 with
    | @scr a vs ds hs hr =>
      refine .inl ⟨a, vs, rfl, by rw [hK]; exact S3.fh.seq hs, fun p hp => ?_⟩
      obtain ⟨g, n⟩ := newL S3.fh (cut_rep hr l h) hp
      exact q _ _ _ g n
  | _ => rw [hd] at e; cases e
end
section
variable {C : Ctx} {X : Cx}
/-! ### calls -/
def fAbs (ds : List D) : Option RV := match ds with
  | [.int i] => some (.sh (.int (if i < 0 then -i else i)))
  | _ => none
theorem n_abs : PureN C (fun xs H Q => ∃ i, xs = [.int i] ∧ Q (.int (if i < 0 then -i else i)) H) fAbs := by
  intro F H xs ds R Q st r e q
  unfold fAbs at e
  split at e
  · cases e
    cases r with
    | cons r rr => cases rr; cases r; exact ⟨_, rfl, NewR.same st (.int _) q⟩
  · cases e
def fInt1 (ds : List D) : Option RV := match ds with
  | [.int i] => some (.sh (.int i))
  | [.bl b] => some (.sh (.int (if b then 1 else 0)))
  | _ => none
theorem n_int1 : PureN C (fun xs H Q => (∃ i, xs = [.int i] ∧ Q (.int i) H) ∨ ∃ k, xs = [.bl k] ∧ Q (.int (if k then 1 else 0)) H) fInt1 := by
  intro F H xs ds R Q st r e q
  unfold fInt1 at e
  split at e
  · cases e
    cases r with
    | cons r rr => cases rr; cases r; exact .inl ⟨_, rfl, NewR.same st (.int _) q⟩
  · cases e
    cases r with
    | cons r rr => cases rr; cases r; exact .inr ⟨_, rfl, NewR.same st (.int _) q⟩
  · cases e
def fMin2 (ds : List D) : Option RV := match ds with
  | [.int i, .int j] => some (.sh (.int (if j < i then j else i)))
  | _ => none
theorem n_min2 : PureN C (fun xs H Q => ∃ i j, xs = [.int i, .int j] ∧ Q (.int (if j < i then j else i)) H) fMin2 := by
  intro F H xs ds R Q st r e q
  unfold fMin2 at e
  split at e
  · cases e
    cases r with
    | cons r rr => cases rr with
      | cons r2 rr => cases rr; cases r; cases r2; exact ⟨_, _, rfl, NewR.same st (.int _) q⟩
  · cases e
def fMax2 (ds : List D) : Option RV := match ds with
  | [.int i, .int j] => some (.sh (.int (if j > i then j else i)))
  | _ => none
theorem n_max2 : PureN C (fun xs H Q => ∃ i j, xs = [.int i, .int j] ∧ Q (.int (if j > i then j else i)) H) fMax2 := by
  intro F H xs ds R Q st r e q
  unfold fMax2 at e
  split at e
  · cases e
    cases r with
    | cons r rr => cases rr with
      | cons r2 rr => cases rr; cases r; cases r2; exact ⟨_, _, rfl, NewR.same st (.int _) q⟩
  · cases e
def fLen (ds : List D) : Option RV := match ds with
  | [.str x] => if x.length ≤ sizeLine then some (.sh (.int x.length)) else none
  | [d] => (elems d).map fun xs => .sh (.int xs.length)
  | _ => none
def rLenX (K : PySem.W.Frag) : List V → Hp → VK → Prop := fun xs H Q => (∃ p ys, xs = [.ref p] ∧ (SqL K H p ys ∨ SqT K H p ys) ∧ Q (.int ys.length) H) ∨ ∃ z, xs = [.str z] ∧ z.length ≤ sizeLine ∧ Q (.int z.length) H
theorem cr_lenX : CallR X (.builtin "len") (rLenX X.K) := call_len_seq.or call_len_str
theorem n_len (hK : X.K = C.K) : PureN C (rLenX X.K) fLen := by
  intro F H xs ds R Q st r e q
  unfold fLen at e
  split at e
  · split at e
    · rename_i hl
      cases e
      cases r with
      | cons r rr => cases rr; cases r; exact .inr ⟨_, rfl, hl, NewR.same st (.int _) q⟩
    · cases e
  · obtain ⟨xs, e1, rfl⟩ := Option.map_eq_some_iff.mp e
    cases r with
    | cons r rr =>
      cases rr
      obtain ⟨p, vs, rfl, hs, hr⟩ := elems_of st r e1
      refine .inl ⟨p, vs, rfl, by rw [hK]; exact hs, ?_⟩
      rw [hr.length]
      exact NewR.same st (.int _) q
  · cases e
/-- isinstance(x, T) of a built-in type -/
def isiD (d : D) (t : Ty) : Option Bool := match d with
  | .non => some false
  | .bl _ => some (match t with | .bool => true | .int => true | _ => false)
  | .int _ => some (match t with | .int => true | _ => false)
  | .str _ => some (match t with | .str => true | _ => false)
  | .tup _ => some (match t with | .tuple => true | _ => false)
  | .lst _ => some (match t with | .list => true | _ => false)
  | .dic _ => some (match t with | .dict => true | _ => false)
  | _ => none
def fIsi (ds : List D) : Option RV := match ds with
  | [d, .ty t] => (isiD d t).map fun b => .sh (.bl b)
  | _ => none
theorem kit_non {K : PySem.W.Frag} (t : Ty) : PySem.W.kitOne K (.type "NoneType") (.type t.name) = some false := by cases t <;> exact kit_ty (by decide +kernel)
theorem kit_bool {K : PySem.W.Frag} (t : Ty) : PySem.W.kitOne K (.type "bool") (.type t.name) = some (match t with | .bool => true | .int => true | _ => false) := by cases t <;> exact kit_ty (by decide +kernel)
theorem kit_int {K : PySem.W.Frag} (t : Ty) : PySem.W.kitOne K (.type "int") (.type t.name) = some (match t with | .int => true | _ => false) := by cases t <;> exact kit_ty (by decide +kernel)
theorem kit_str {K : PySem.W.Frag} (t : Ty) : PySem.W.kitOne K (.type "str") (.type t.name) = some (match t with | .str => true | _ => false) := by cases t <;> exact kit_ty (by decide +kernel)
theorem kit_tup {K : PySem.W.Frag} (t : Ty) : PySem.W.kitOne K (.type "tuple") (.type t.name) = some (match t with | .tuple => true | _ => false) := by cases t <;> exact kit_ty (by decide +kernel)
theorem kit_lst {K : PySem.W.Frag} (t : Ty) : PySem.W.kitOne K (.type "list") (.type t.name) = some (match t with | .list => true | _ => false) := by cases t <;> exact kit_ty (by decide +kernel)
theorem kit_dic {K : PySem.W.Frag} (t : Ty) : PySem.W.kitOne K (.type "dict") (.type t.name) = some (match t with | .dict => true | _ => false) := by cases t <;> exact kit_ty (by decide +kernel)
theorem isi_of {F H : Hp} {x : V} {d : D} {t : Ty} {b : Bool} (st : Same F H) (r : Rep C F x d) (h : isiD d t = some b) : ∃ u, TyX C.K H x u ∧ PySem.W.kitOne C.K u (.type t.name) = some b := by
  cases r with
  | non => cases h; exact ⟨_, .base .non, kit_non t⟩
  | bl k => cases h; exact ⟨_, .base (.bl k), kit_bool t⟩
  | int k => cases h; exact ⟨_, .base (.int k), kit_int t⟩
  | str k => cases h; exact ⟨_, .base (.str k), kit_str t⟩
  | tup hs hr =>
    cases h
    refine ⟨_, ?_, kit_tup t⟩
    rcases hs with (hs | ⟨o, hs⟩) | ⟨o, its, n, hk, hc, _⟩
    · exact .base (.tup (st _ _ hs))
    · exact .fTuple (st _ _ hs)
    · exact .kTuple hk hc
  | lst hs hr => cases h; exact ⟨_, .base (.lst (st _ _ hs)), kit_lst t⟩
  | dicK hs hr =>
    cases h
    exact ⟨_, .base (.dK (st _ _ hs)), kit_dic t⟩
  | dicT hs hr =>
    cases h
    exact ⟨_, .base (.dT (st _ _ hs)), kit_dic t⟩
  | _ => cases h
theorem n_isi (hK : X.K = C.K) : PureN C (rIsi X.K) fIsi := by
  intro F H xs ds R Q st r e q
  unfold fIsi at e
  split at e
  · obtain ⟨b, e1, rfl⟩ := Option.map_eq_some_iff.mp e
    cases r with
    | cons r rr => cases rr with
      | cons r2 rr =>
        cases rr; cases r2
        obtain ⟨u, h1, h2⟩ := isi_of st r e1
        refine ⟨_, _, u, _, b, rfl, .ty _, by rw [hK]; exact h1, by rw [hK]; exact h2, NewR.same st (.bl _) q⟩
  · cases e
def bls : List D → Option (List Bool)
  | [] => some []
  | .bl b :: r => (bls r).map (b :: ·)
  | _ => none
theorem bls_of {F : Hp} : ∀ {ds : List D} {vs : List V} {bs : List Bool}, RepL C F vs ds → bls ds = some bs → vs = bs.map V.bl
  | [], _, bs, r, e => by cases r; cases e; rfl
  | d :: ds, _, bs, r, e => by
    cases r with
    | cons r1 r2 =>
      cases d with
      | bl b =>
        have e : (bls ds).map (b :: ·) = some bs := e
        obtain ⟨bs', e1, rfl⟩ := Option.map_eq_some_iff.mp e
        cases r1
        rw [bls_of r2 e1]
        rfl
      | _ => cases e
def fAll (ds : List D) : Option RV := match ds with
  | [.lst xs] => (bls xs).map fun bs => .sh (.bl (bs.all id))
  | _ => none
def fAny (ds : List D) : Option RV := match ds with
  | [.lst xs] => (bls xs).map fun bs => .sh (.bl (bs.any id))
  | _ => none
theorem n_all (hK : X.K = C.K) : PureN C (rAll X.K) fAll := by
  intro F H xs ds R Q st r e q
  unfold fAll at e
  split at e
  · obtain ⟨bs, e1, rfl⟩ := Option.map_eq_some_iff.mp e
    cases r with
    | cons r rr =>
      cases rr
      cases r with
      | @lst a vs _ hs hr =>
        have := bls_of hr e1
        subst this
        exact ⟨a, bs, rfl, SqL.of (st _ _ hs), NewR.same st (.bl _) q⟩
  · cases e
theorem n_any (hK : X.K = C.K) : PureN C (rAny X.K) fAny := by
  intro F H xs ds R Q st r e q
  unfold fAny at e
  split at e
  · obtain ⟨bs, e1, rfl⟩ := Option.map_eq_some_iff.mp e
    cases r with
    | cons r rr =>
      cases rr
      cases r with
      | @lst a vs _ hs hr =>
        have := bls_of hr e1
        subst this
        exact ⟨a, bs, rfl, SqL.of (st _ _ hs), NewR.same st (.bl _) q⟩
  · cases e
def intsD : List D → Option (List Int)
  | [] => some []
  | .int b :: r => (intsD r).map (b :: ·)
  | _ => none
theorem ints_of {F : Hp} : ∀ {ds : List D} {vs : List V} {bs : List Int}, RepL C F vs ds → intsD ds = some bs → vs = bs.map V.int
  | [], _, bs, r, e => by cases r; cases e; rfl
  | d :: ds, _, bs, r, e => by
    cases r with
    | cons r1 r2 =>
      cases d with
      | int b =>
        have e : (intsD ds).map (b :: ·) = some bs := e
        obtain ⟨bs', e1, rfl⟩ := Option.map_eq_some_iff.mp e
        cases r1
        rw [ints_of r2 e1]
        rfl
      | _ => cases e
/-- the greatest -/
def maxI : List Int → Option Int
  | [] => none
  | x :: r => some (r.foldl (fun m y => if y > m then y else m) x)
theorem foldl_max : ∀ (r : List Int) (x : Int), (r.foldl (fun m y => if y > m then y else m) x ∈ x :: r) ∧ ∀ y ∈ x :: r, y ≤ r.foldl (fun m y => if y > m then y else m) x := by
  intro r
  induction r with
  | nil => intro x; exact ⟨List.mem_cons_self, fun y hy => by rw [List.mem_singleton.mp hy]; exact Int.le_refl _⟩
  | cons z r ih =>
    intro x
    rw [List.foldl_cons]
    obtain ⟨h1, h2⟩ := ih (if z > x then z else x)
    refine ⟨?_, fun y hy => ?_⟩
    · rcases List.mem_cons.mp h1 with h | h
      · rw [h]; split
        · exact List.mem_cons_of_mem _ List.mem_cons_self
        · exact List.mem_cons_self
      · exact List.mem_cons_of_mem _ (List.mem_cons_of_mem _ h)
    · have hx : (if z > x then z else x) ≤ _ := h2 _ List.mem_cons_self
      rcases List.mem_cons.mp hy with rfl | hy
      · refine Int.le_trans ?_ hx
        split <;> omega
      · rcases List.mem_cons.mp hy with rfl | hy
        · refine Int.le_trans ?_ hx
          split <;> omega
        · exact h2 y (List.mem_cons_of_mem _ hy)
def fMaxL (ds : List D) : Option RV := match ds with
  | [.lst xs] => (intsD xs).bind fun ns => (maxI ns).map fun m => .sh (.int m)
  | _ => none
theorem n_maxL (hK : X.K = C.K) : PureN C (rMax X.K) fMaxL := by
  intro F H xs ds R Q st r e q
  unfold fMaxL at e
  split at e
  · obtain ⟨ns, e1, e2⟩ := Option.bind_eq_some_iff.mp e
    obtain ⟨m, e3, rfl⟩ := Option.map_eq_some_iff.mp e2
    cases r with
    | cons r rr =>
      cases rr
      cases r with
      | @lst a vs _ hs hr =>
        have := ints_of hr e1
        subst this
        cases ns with
        | nil => cases e3
        | cons x ns =>
          cases e3
          obtain ⟨h1, h2⟩ := foldl_max ns x
          refine ⟨a, x :: ns, rfl, SqL.of (st _ _ hs), Nat.succ_pos _, fun m hm hle => ?_⟩
          have : m = ns.foldl (fun m y => if y > m then y else m) x := Int.le_antisymm (h2 m hm) (hle _ h1)
          rw [this]
          exact NewR.same st (.int _) q
  · cases e
def fTupOf (ds : List D) : Option RV := match ds with
  | [.lst xs] => some (.sh (.tup xs))
  | [.tup xs] => some (.sh (.tup xs))
  | _ => none
theorem n_tupOf (hK : X.K = C.K) : PureN C (fun xs H Q => ∃ p ys, xs = [.ref p] ∧ ((SqL X.K H p ys ∧ ∀ l, H l = none → Q (.ref l) (upd H l (.tup ys))) ∨ (SqT X.K H p ys ∧ Q (.ref p) H))) fTupOf := by
  intro F H xs ds R Q st r e q
  unfold fTupOf at e
  split at e
  · cases e
    cases r with
    | cons r rr =>
      cases rr
      cases r with
      | @lst a vs _ hs hr =>
        refine ⟨a, vs, rfl, .inl ⟨SqL.of (st _ _ hs), fun l hl => ?_⟩⟩
        obtain ⟨g, n⟩ := newT st hr hl
        exact q _ _ _ g n
  · cases e
    cases r with
    | cons r rr =>
      cases rr
      cases r with
      | @tup a vs _ hs hr => exact ⟨a, vs, rfl, .inr ⟨by rw [hK]; exact SqT_mono st hs, NewR.same st (.tup hs hr) q⟩⟩
  · cases e
def fLstOf (ds : List D) : Option RV := match ds with
  | [d] => (elems d).map fun xs => .fr (.lst xs)
  | _ => none
theorem n_lstOf (hK : X.K = C.K) : PureN C (fun xs H Q => ∃ p ys, xs = [.ref p] ∧ (SqL X.K H p ys ∨ SqT X.K H p ys) ∧ ∀ l, H l = none → Q (.ref l) (upd H l (.lst ys))) fLstOf := by
  intro F H xs ds R Q st r e q
  unfold fLstOf at e
  split at e
  · obtain ⟨xs, e1, rfl⟩ := Option.map_eq_some_iff.mp e
    cases r with
    | cons r rr =>
      cases rr
      obtain ⟨p, vs, rfl, hs, hr⟩ := elems_of st r e1
      refine ⟨p, vs, rfl, by rw [hK]; exact hs, fun l hl => ?_⟩
      obtain ⟨g, n⟩ := newL st hr hl
      exact q _ _ _ g n
  · cases e
end
end MM

/-! MM: raise, try. The first part joins two rules of the hand layer (several except clauses; a clause with a name). -/
namespace MM
open PySem PySem.Spec PyProof.Rows L2

abbrev TSx := Addr → Value → Option Addr → TS
def asEnds (D : Ends) : Option Nat → Ends
  | none => D
  | some i => { nx := fun σ' H' => D.nx (σ'.set i none) H', rt := D.rt, bk := fun σ' H' => D.bk (σ'.set i none) H', ct := fun σ' H' => D.ct (σ'.set i none) H' }
def asSt (a : Addr) (σ : L2.St) : Option Nat → L2.St
  | none => σ
  | some i => σ.set i (some (.ref a))
/-- what the clauses wish of an exception of the body, one after the other -/
def wHds (K : PySem.W.Frag) (Wout : WX) (D : Ends) : List (Value × Option Nat × TSx) → WX
  | [] => Wout
  | (c, o, ts) :: r => fun cls d σ H => ∃ b, PySem.W.exmOne K cls c = some b ∧ (b = true → ∀ a, H a = none → ts a cls d (asEnds D o) (asSt a σ o) H) ∧ (b = false → wHds K Wout D r cls d σ H)
inductive Hds (X : Cx) : List ExceptHandler → List (Value × Option Nat × TSx) → Prop
  | nil : Hds X [] []
  | plain {x : Str} {c : Value} {ts : TSx} {b₀ : Stmt} {suite : List Stmt} {np pos' : Pos} {hds : List ExceptHandler} {l : List (Value × Option Nat × TSx)} (hc : Names X x c)
      (hsu : ∀ (a : Addr) (oe : Obj) (cls : Value) (d : Option Addr) (pn : List (Addr × Obj)), Zc cls d oe → (∃ vs, oe.data = .fields vs) → PSs (X.suite a ((a, oe) :: pn)) (b₀ :: suite) (ts a cls d)) (r : Hds X hds l) :
      Hds X (.ExceptHandler (some (.Name x np)) none (b₀ :: suite) pos' :: hds) ((c, none, ts) :: l)
  | as {x n : Str} {c : Value} {i : Nat} {ts : TSx} {b₀ : Stmt} {suite : List Stmt} {np pos' : Pos} {hds : List ExceptHandler} {l : List (Value × Option Nat × TSx)} (hN : X.N.Nodup) (hi : X.N[i]? = some n) (hln : X.env.kindOf n = some .local) (hc : Names X x c)
      (hsu : ∀ (a : Addr) (oe : Obj) (cls : Value) (d : Option Addr) (pn : List (Addr × Obj)), Zc cls d oe → (∃ vs, oe.data = .fields vs) → PSs (X.suite a ((a, oe) :: pn)) (b₀ :: suite) (ts a cls d)) (r : Hds X hds l) :
      Hds X (.ExceptHandler (some (.Name x np)) (some n) (b₀ :: suite) pos' :: hds) ((c, some i, ts) :: l)
section
variable {X : Cx} {body : List Stmt} {h₀ : ExceptHandler} {hds : List ExceptHandler} {l : List (Value × Option Nat × TSx)} {pos : Pos} {tb : WX → TS} {Wout : WX}
theorem ps_try (hs : X.stack = X.env :: X.outer) (hf : X.env.frame = some X.env.locals) (tk : Takes X Wout)
    (hb : ∀ (W : WX) (pn : List (Addr × Obj)) (xe : Value → Shared → Prop), Takes (X.tr pn xe) W → PassesOwn (model X.prog X.w) X.A X.env xe → PSs (X.tr pn xe) body (tb W))
    (hh : Hds X (h₀ :: hds) l) : PS X (.Try body (h₀ :: hds) [] [] pos) (fun D σ H => tb (wHds X.K Wout D l) D σ H) := by
  refine ⟨fun pins s σ H D I h => ?_⟩
  have ok := I.ok
  have hfr : X.A.frames = some (X.env :: X.outer) := by rw [ok.frames, hs]
  refine wpAny_Try_except ?_
  refine wpAny_mono ((hb (wHds X.K Wout D l) (X.pn ++ pins) (fun e s₁ => wpAny (model X.prog X.w) X.A (noteFrame e X.env) (fun _ s₂ => wpAny (model X.prog X.w) X.A (setFlight e none) (fun _ s₃ =>
    wpAny (model X.prog X.w) X.A (handleBy e X.env (h₀ :: hds)) (SP X pins D) X.xe s₃) X.xe s₂) X.xe s₁) (fun u s' xx => ?_) PassesOwn.looking).run [] s σ H D (I.toTry _) h) (fun f s1 hsp => ?_) (fun e s1 he => he)
  · -- the catch
    obtain ⟨a, B, sI, pins', σ', H', cls, d, rfl, J', nb, up, sky, na, os, ag, w⟩ := xx
    have J : L2.Inv X pins σ' H' sI := J'.ofTry ok
    have sky' : Sky B (X.env :: X.outer) a (Zc cls d) X.env.locals s'.heap := by rw [← hs]; exact sky
    show wpAny (model X.prog X.w) X.A (noteFrame (.ref a) X.env) _ _ _
    refine Sky.land Zc.steady hfr hf sky' fun h3 fl3 up3 => ?_
    have J3 : L2.Inv X pins σ' H' { s' with heap := h3 } := J.landed nb fl3.1 (up.trans up3) os ag
    obtain ⟨oe3, vs3, he3, hz3, hd3⟩ := fl3.there
    have notFr : ∀ {h : Heap} {o : Obj} {vs : Array Value}, h.FunFrames B (X.env :: X.outer) → h.get? a = some o → o.data = .fields vs → a ∉ frs (X.env :: X.outer) := fun {h o vs} ff e dd hm => by
      obtain ⟨_, o', e', hnf⟩ := ff.mem hm
      rw [e] at e'; cases e'
      exact hnf _ dd
    have nfr := notFr fl3.2.2.1 he3 hd3
    have nL : a ≠ X.env.locals := fun z => nfr (List.mem_filterMap.mpr ⟨X.env, List.mem_cons_self, by rw [hf, z]⟩)
    have nF : a ∉ X.fs := fun hm => by
      obtain ⟨e, he, q⟩ := List.mem_filterMap.mp hm
      exact nfr (List.mem_filterMap.mpr ⟨e, List.mem_cons_of_mem _ he, q⟩)
    have S3 := J3.suite he3 hd3 na nL nF
    have go : ∀ {hds' : List ExceptHandler} {l' : List (Value × Option Nat × TSx)}, Hds X hds' l' → wHds X.K Wout D l' cls d σ' H' →
        wpAny (model X.prog X.w) X.A (handleBy (.ref a) X.env hds') (SP X pins D) X.xe { s' with heap := h3 } := by
      intro hds' l' hk
      have LT : PySem.W.Looks (model X.prog X.w) h3 (typeOf (.ref a)) cls := fun A Q E s k q => wpAny_typeOf_ref (k _ _ he3) (by rw [hz3.1]; exact q)
      have test : ∀ {x : Str} {c : Value} {np : Pos} (_ : Names X x c) {Q : Value → Shared → Prop} {E : Value → Shared → Prop}, Q c { s' with heap := h3 } → wpAny (model X.prog X.w) (X.A.mark (some (.ref a))) (eval (.Name x np) X.env) Q E { s' with heap := h3 } := fun {x c np} hc {Q E} q => by
        obtain ⟨hg, hdbg, hm | ⟨hm, hv, hnn⟩⟩ := hc
        · exact ld_glob (X := X.suite a ((a, oe3) :: (X.pn ++ pins))) S3 hg hm q hdbg
        · exact ld_blt (X := X.suite a ((a, oe3) :: (X.pn ++ pins))) S3 hg hm hv q hnn hdbg
      induction hk with
      | nil =>
        intro w
        refine wpAny_handleBy_nil ?_
        obtain ⟨k1, k2, k3, oe, vs, T, oT, ts', he, hz, hd, h1, hr⟩ := id fl3
        unfold PySem.passOn
        refine wpAny_bind (wpAny_field he hd h1 ?_)
        rw [if_neg (show ¬ ((Value.ref T == Value.none) = true) from by simp)]
        have fin : wpAny (model X.prog X.w) X.A (setFlight (.ref a) X.env.frame) (fun _ s4 => wpAny (model X.prog X.w) X.A (throw (.ref a) : Sem Flow) (SP X pins D) X.xe s4) X.xe { s' with heap := h3 } := by
          rw [hf]
          refine HandSPX.setFlight_upZ fl3 fun h4 hh4 up4 => wpAny_throw (tk _ _ ?_)
          exact ⟨a, B, sI, pins, σ', H', cls, d, rfl, J, nb, (up.trans up3).trans up4, .inr (.inr (by rw [hs]; exact hh4)), na, os, ag, w⟩
        first
          | exact wpAny_bind (wpAny_pure (wpAny_bind fin))
          | exact wpAny_bind fin
      | @plain x c ts b₀ suite np pos' hds2 l2 hc hsu r ih =>
        intro w
        obtain ⟨b, hb1, hyes, hno⟩ := w
        refine wpAny_handleBy_cons (codeAny_handlers_test ?_) (by intro q; cases q)
        have LM := PySem.W.exm_one (M := model X.prog X.w) (J3.kIn) LT hb1
        refine test hc (LM.here ?_)
        cases b with
        | true =>
          refine codeAny_handlers_suite ?_
          refine HandSPX.lands_againZ fl3 fun h4 fl4 up4 => ?_
          have J4 : L2.Inv X pins σ' H' { s' with heap := h4 } := J.landed nb fl4.1 ((up.trans up3).trans up4) os ag
          obtain ⟨oe4, vs4, he4, hz4, hd4⟩ := fl4.there
          have S4 := J4.suite he4 hd4 na nL nF
          refine wpAny_mono ((hsu a oe4 cls d (X.pn ++ pins) hz4 ⟨_, hd4⟩).run [] _ _ H' _ S4 (hyes rfl a na)) (fun f s6 hsp => ?_) (fun _ _ z => False.elim z)
          cases f with
          | next =>
            obtain ⟨σ6, H6, S6, q6⟩ := hsp
            exact ⟨_, _, S6.unsuite ok, q6⟩
          | brk =>
            obtain ⟨σ6, H6, S6, q6⟩ := hsp
            exact ⟨_, _, S6.unsuite ok, q6⟩
          | cont =>
            obtain ⟨σ6, H6, S6, q6⟩ := hsp
            exact ⟨_, _, S6.unsuite ok, q6⟩
          | ret u =>
            obtain ⟨v6, σ6, H6, S6, r6, q6⟩ := hsp
            exact ⟨_, _, _, S6.unsuite ok, r6, q6⟩
        | false =>
          show wpAny _ X.A (handleBy (.ref a) X.env hds2) _ _ _
          exact ih (hno rfl)
      | @as x n c i ts b₀ suite np pos' hds2 l2 hN hi hln hc hsu r ih =>
        intro w
        obtain ⟨b, hb1, hyes, hno⟩ := w
        have hloc : Loc X.env.scope n := .inl hln
        refine wpAny_handleBy_cons (codeAny_handlers_test ?_) (by intro q; cases q)
        have LM := PySem.W.exm_one (M := model X.prog X.w) (J3.kIn) LT hb1
        refine test hc (LM.here ?_)
        cases b with
        | true =>
          refine codeAny_handlers_suite_as ?_
          refine HandSPX.lands_againZ fl3 fun h4 fl4 up4 => ?_
          have J4 : L2.Inv X pins σ' H' { s' with heap := h4 } := J.landed nb fl4.1 ((up.trans up3).trans up4) os ag
          obtain ⟨oe4, vs4, he4, hz4, hd4⟩ := fl4.there
          have S4 := J4.suite he4 hd4 na nL nF
          refine store_ok (X := X.suite a ((a, oe4) :: (X.pn ++ pins))) (v := .ref a) S4 hN hi hloc rfl (fun s5 S5 => ?_) (.inr hln)
          refine wpAny_mono ((hsu a oe4 cls d (X.pn ++ pins) hz4 ⟨_, hd4⟩).run [] s5 _ H' _ S5 (hyes rfl a na)) (fun f s6 hsp => ?_) (fun _ _ z => False.elim z)
          have end_ : ∀ {σ6 : L2.St} {H6 : Hp} {Q : Shared → Prop}, L2.Inv (X.suite a ((a, oe4) :: (X.pn ++ pins))) [] σ6 H6 s6 → (∀ s7, L2.Inv X pins (σ6.set i none) H6 s7 → Q s7) →
              wpAny (model X.prog X.w) X.A (do bindName X.env n .none; unbindBehindTheSuite X.env n pos') (fun _ s7 => Q s7) X.xe s6 := fun {σ6 H6 Q} S6 hq => gone_ok (S6.unsuite ok) hN hi hln hq
          cases f with
          | next =>
            obtain ⟨σ6, H6, S6, q6⟩ := hsp
            exact end_ S6 fun s7 J7 => ⟨_, _, J7, q6⟩
          | brk =>
            obtain ⟨σ6, H6, S6, q6⟩ := hsp
            exact end_ S6 fun s7 J7 => ⟨_, _, J7, q6⟩
          | cont =>
            obtain ⟨σ6, H6, S6, q6⟩ := hsp
            exact end_ S6 fun s7 J7 => ⟨_, _, J7, q6⟩
          | ret u =>
            obtain ⟨v6, σ6, H6, S6, r6, q6⟩ := hsp
            exact end_ S6 fun s7 J7 => ⟨_, _, _, J7, r6, q6⟩
        | false =>
          show wpAny _ X.A (handleBy (.ref a) X.env hds2) _ _ _
          exact ih (hno rfl)
    exact go hh w
  · cases f with
    | next =>
      obtain ⟨σ', H', J', q⟩ := hsp
      exact wpAny_execs_nil ⟨σ', H', J'.ofTry ok, q⟩
    | brk =>
      obtain ⟨σ', H', J', q⟩ := hsp
      exact ⟨σ', H', J'.ofTry ok, q⟩
    | cont =>
      obtain ⟨σ', H', J', q⟩ := hsp
      exact ⟨σ', H', J'.ofTry ok, q⟩
    | ret u =>
      obtain ⟨v, σ', H', J', r, q⟩ := hsp
      exact ⟨v, σ', H', J'.ofTry ok, r, q⟩
end

/-! ### by data -/
/-- a clause: its class, the slot of its name, what its suite does with the exception -/
structure Hd where
  c : Nat
  i : Option Nat
  m : Xc → M Fl
def unSet (E : Ev) : Option Nat → Ev
  | none => E
  | some i => E.set i .un
def goHd (x : Xc) (h : Hd) (E : Ev) : Out Fl := match h.m x (unSet E h.i) with
  | .ok f E1 => .ok f (unSet E1 h.i)
  | _ => .stuck
def hdL (sub : Nat → Nat → Option Bool) (x : Xc) : List Hd → Ev → Out Fl
  | [], E => .ex x E
  | h :: r, E => match sub x.c h.c with
    | some true => goHd x h E
    | some false => hdL sub x r E
    | none => .stuck
def sTry (sub : Nat → Nat → Option Bool) (mb : M Fl) (hs : List Hd) : M Fl := fun E => match mb E with
  | .ex x E1 => hdL sub x hs E1
  | o => o
/-- the clauses of the text do what hs tells -/
inductive MHds (C : Ctx) (B : Base) (X : Cx) : List ExceptHandler → List Hd → Prop
  | nil : MHds C B X [] []
  | plain {x : Str} {h : Hd} {b₀ : Stmt} {suite : List Stmt} {np pos' : Pos} {hds : List ExceptHandler} {l : List Hd} (hc : Names X x (.ref (C.fa h.c))) (hi : h.i = none)
      (hsu : ∀ (a : Addr) (oe : Obj) (cls : Value) (d : Option Addr) (pn : List (Addr × Obj)) (x : Xc), Zc cls d oe → (∃ vs, oe.data = .fields vs) → PSs (X.suite a ((a, oe) :: pn)) (b₀ :: suite) (tS C B WNo (h.m x))) (r : MHds C B X hds l) :
      MHds C B X (.ExceptHandler (some (.Name x np)) none (b₀ :: suite) pos' :: hds) (h :: l)
  | as {x n : Str} {h : Hd} {i : Nat} {b₀ : Stmt} {suite : List Stmt} {np pos' : Pos} {hds : List ExceptHandler} {l : List Hd} (hN : X.N.Nodup) (hi : X.N[i]? = some n) (hln : X.env.kindOf n = some .local) (hc : Names X x (.ref (C.fa h.c))) (he : h.i = some i)
      (hsu : ∀ (a : Addr) (oe : Obj) (cls : Value) (d : Option Addr) (pn : List (Addr × Obj)) (x : Xc), Zc cls d oe → (∃ vs, oe.data = .fields vs) → PSs (X.suite a ((a, oe) :: pn)) (b₀ :: suite) (tS C B WNo (h.m x))) (r : MHds C B X hds l) :
      MHds C B X (.ExceptHandler (some (.Name x np)) (some n) (b₀ :: suite) pos' :: hds) (h :: l)
section
variable {C : Ctx} {B : Base} {W : WX} {X : Cx} {pos : Pos}
def tsHd (C : Ctx) (B : Base) (h : Hd) : TSx := fun _ _ _ => fun D σ H => ∃ x, tS C B WNo (h.m x) D σ H
theorem MHds.hds {hs : List ExceptHandler} {l : List Hd} (h : MHds C B X hs l) : Hds X hs (l.map fun h => (.ref (C.fa h.c), h.i, tsHd C B h)) := by
  induction h with
  | nil => exact .nil
  | @plain x h b₀ suite np pos' hds l hc hi hsu r ih =>
    rw [List.map_cons, hi]
    exact .plain hc (fun a oe cls d pn hz hv => ⟨fun p s σ H D I ⟨x, w⟩ => (hsu a oe cls d pn x hz hv).run p s σ H D I w⟩) ih
  | @as x n h i b₀ suite np pos' hds l hN hi hln hc he hsu r ih =>
    rw [List.map_cons, he]
    exact .as hN hi hln hc (fun a oe cls d pn hz hv => ⟨fun p s σ H D I ⟨x, w⟩ => (hsu a oe cls d pn x hz hv).run p s σ H D I w⟩) ih
theorem Sim.setUn {F H : Hp} {E : Ev} {σ : L2.St} (S : Sim C B F H E σ) (i : Nat) (o : Option V) : Sim C B F H (E.set i .un) (σ.set i o) := by
  have ne : ∀ (j : Nat) (s : Sl), (E.set i .un)[j]? = some s → s ≠ .un → i ≠ j ∧ E[j]? = some s := fun j s e n => by
    rw [List.getElem?_set] at e
    split at e
    · split at e
      · cases e; exact absurd rfl n
      · cases e
    · rename_i h; exact ⟨h, e⟩
  refine ⟨S.g, by rw [List.length_set, List.length_set]; exact S.len, fun j s e => ?_, fun j k s t a e1 e2 o1 o2 => ?_, fun c w q => ⟨(S.pn c w q).1, (S.pn c w q).2.1, (S.pn c w q).2.2.set i rfl _⟩⟩
  · by_cases hs : s = .un
    · subst hs; trivial
    · obtain ⟨h1, h2⟩ := ne j s e hs
      rw [List.getElem?_set_ne h1]
      exact S.sl j s h2
  · obtain ⟨n1, e1⟩ := ne j s e1 (fun z => by subst z; cases o1)
    obtain ⟨n2, e2⟩ := ne k t e2 (fun z => by subst z; cases o2)
    rw [List.getElem?_set_ne n1, List.getElem?_set_ne n2]
    exact S.sep j k s t a e1 e2 o1 o2
theorem Sim.asSt {F H : Hp} {E : Ev} {σ : L2.St} (S : Sim C B F H E σ) (a : Addr) (o : Option Nat) : Sim C B F H (unSet E o) (asSt a σ o) := by
  cases o with
  | none => exact S
  | some i => exact S.setUn i _
theorem goHd_go {D : Ends} {F H : Hp} {E : Ev} {σ : L2.St} {x : Xc} {h : Hd} (a : Addr) (S : Sim C B F H E σ) (p : PostS C B W F (kS C B F D) (goHd x h E)) : tsHd C B h a (.ref 0) none (asEnds D h.i) (MM.asSt a σ h.i) H := by
  refine ⟨x, F, unSet E h.i, S.asSt a h.i, ?_⟩
  unfold goHd at p
  cases hm : h.m x (unSet E h.i) with
  | stuck => rw [hm] at p; exact p.elim
  | ex y E1 => rw [hm] at p; exact p.elim
  | ok f E1 =>
    rw [hm] at p
    cases hi : h.i with
    | none =>
      rw [hi] at p
      exact p
    | some i =>
      rw [hi] at p
      cases f with
      | nx => exact fun σ1 F1 H1 S1 st1 => p _ F1 H1 (S1.setUn i none) st1
      | bk => exact fun σ1 F1 H1 S1 st1 => p _ F1 H1 (S1.setUn i none) st1
      | ct => exact fun σ1 F1 H1 S1 st1 => p _ F1 H1 (S1.setUn i none) st1
      | rt r =>
        refine fun σ1 v F1 H1 S1 st1 rr => p (σ1.set i none) v F1 H1 (S1.setUn i none) st1 ?_
        cases r with
        | sh d => exact rr
        | fr d => obtain ⟨b, e, o, n, ap, pn⟩ := rr; exact ⟨b, e, o, n, ap.set i rfl _, pn⟩
theorem ms_try {body : List Stmt} {h₀ : ExceptHandler} {hds : List ExceptHandler} {l : List Hd} {mb : M Fl} {sub : Nat → Nat → Option Bool} (hsub : ∀ i j b, sub i j = some b → PySem.W.exmOne X.K (.ref (C.fa i)) (.ref (C.fa j)) = some b)
    (hs : X.stack = X.env :: X.outer) (hf : X.env.frame = some X.env.locals) (tk : Takes X W)
    (hb : ∀ (W : WX) (pn : List (Addr × Obj)) (xe : Value → Shared → Prop), Takes (X.tr pn xe) W → PassesOwn (model X.prog X.w) X.A X.env xe → PSs (X.tr pn xe) body (tS C B W mb))
    (hh : MHds C B X (h₀ :: hds) l) : PS X (.Try body (h₀ :: hds) [] [] pos) (tS C B W (sTry sub mb l)) := by
  refine PS.imp (ps_try hs hf tk (tb := fun W => tS C B W mb) hb hh.hds) fun D σ H ⟨F, E, S, p⟩ => ?_
  refine ⟨F, E, S, ?_⟩
  unfold sTry at p
  cases hm : mb E with
  | stuck => rw [hm] at p; exact p
  | ok f E1 => rw [hm] at p; exact p
  | ex x E1 =>
    rw [hm] at p
    dsimp only at p
    intro σ1 cls d F1 H1 S1 st1 rx
    have go : ∀ (l : List Hd), PostS C B W F (kS C B F D) (hdL sub x l E1) → wHds X.K W D (l.map fun h => (.ref (C.fa h.c), h.i, tsHd C B h)) cls d σ1 H1 := by
      intro l
      induction l with
      | nil => intro q; exact q σ1 cls d F1 H1 S1 st1 rx
      | cons h r ih =>
        intro q
        unfold hdL at q
        cases hsb : sub x.c h.c with
        | none => rw [hsb] at q; exact q.elim
        | some b =>
          rw [hsb] at q
          refine ⟨b, by rw [rx.1]; exact hsub _ _ _ hsb, fun hb a na => ?_, fun hb => ?_⟩
          · subst hb
            exact goHd_go a S1 (q.mono st1 fun _ _ z => z.mono st1)
          · subst hb
            exact ih q
    exact go l p
/-! ### raise -/
theorem ms_raise {c : Nat} {x m : Str} {j : Nat} {p0 p1 p2 : Pos} (hc : X.calm = true) (tk : Takes X W) (q : PySem.W.excIn X.K (C.fa c) PySem.HandSPX.veTail "ValueError.__new__" = true) (gC : X.mg x = some (.ref (C.fa c))) (kC : PySem.W.keepIn X.K (.ref (C.fa c)) = true) (r : Raises X (.ref (C.fa c))) (hg : Gl X x)
    (hdb : (x == ("__debug__" : Str)) = false := by decide) : PS X (.Raise (some (.Call (.Name x p0) [.Constant (.str m) j p1] [] p2)) none pos) (tS C B W (sRaise ⟨c, none⟩)) :=
  PS.imp (ps_raise hc tk (pmk_own PySem.F.excBase_ValueError q gC kC r hg hdb)) fun D σ H ⟨F, E, S, p⟩ => p σ _ none F H S (Same.refl F) ⟨rfl, rfl⟩
theorem ms_never {sts : List Stmt} : PSs X sts (tS C B W (fun _ => .stuck)) := PSs.imp pss_never fun D σ H ⟨F, E, S, p⟩ => p.elim
end
end MM

/-! MM: further rules. -/
namespace MM
open PySem PySem.Spec PyProof.Rows L2
/-- the last read of a slot: what it owns goes with it -/
def eGive (i : Nat) : M RV := fun E => match E[i]? with
  | some (.sh d) => .ok (.sh d) E
  | some (.ow d) => .ok (.fr d) (E.set i .un)
  | _ => .stuck
section
variable {C : Ctx} {B : Base} {W : WX} {X : Cx} {pos p py apos cpos : Pos} {a b : Expr} {ma mb : M RV} {x y name : Str}
theorem me_give (i : Nat) (hN : X.N[i]? = some x := by rfl) (hv : Vis X.env.scope x := by first | exact Or.inl rfl | exact Or.inr (Or.inl rfl) | exact Or.inr (Or.inr rfl)) (hd : (x == ("__debug__" : Str)) = false := by decide)
    (hcd : (x == ("__classdict__" : Str)) = false := by decide) : PE X (.Name x pos) (tE C B W (eGive i)) := by
  refine PE.imp (pe_var hN hv hd hcd) fun σ H Q ⟨F, E, S, p⟩ => ?_
  unfold eGive at p
  cases e : E[i]? with
  | none => rw [e] at p; exact p.elim
  | some s =>
    rw [e] at p
    cases s with
    | un => exact p.elim
    | bo d => exact p.elim
    | sh d =>
      obtain ⟨v, h1, h2⟩ := S.sl i _ e
      exact ⟨v, h1, p v F H S (Same.refl F) h2⟩
    | ow d =>
      obtain ⟨a', h1, h2, h3, h4, h5⟩ := S.give e
      exact ⟨_, h1, p _ F H (S.unset i) (Same.refl F) ⟨a', rfl, h2, h3, h4, h5⟩⟩
variable {T id : String} {r : V → List V → Hp → VK → Prop} {q : D → Bool} {f : D → List D → Option (D × D)}
theorem me_own0 (i : Nat) (pa : PlainAttrs T) (slot : PySem.Slot T name id) (hty : typeOf (.builtin id) = pure (.type "method_descriptor")) (hm : MtR X id r) (ty : ∀ F H a d, Own C F H a d → q d = true → tyV X.K T (.ref a) H) (ho : OwnR C r f)
    (hN : X.N[i]? = some y := by rfl) (hv : Vis X.env.scope y := by first | exact Or.inl rfl | exact Or.inr (Or.inl rfl) | exact Or.inr (Or.inr rfl)) (hdy : (y == ("__debug__" : Str)) = false := by decide) (hcy : (y == ("__classdict__" : Str)) = false := by decide)
    (h1 : attributeBase (.Name y py) name X.env (eval (.Name y py) X.env) = eval (.Name y py) X.env := by rfl) (h3 : (apos.endLine == cpos.line) = true := by rfl) :
    PE X (.Call (.Attribute (.Name y py) name apos) [] [] cpos) (tE C B W (eOwn i q f aNil)) :=
  PE.imp (pe_bm0 pa slot hty hm (pe_var (i := i) hN hv hdy hcy) h1 h3) fun σ H Q t => by
    obtain ⟨v, h1, h2, F, E, S, h3⟩ := eOwn_go i ty ho t
    exact ⟨v, h1, h2, h3 [] F H S (Same.refl F) .nil⟩
/-! ### zip, enumerate -/
def pairD (p : D × D) : D := .tup [p.1, p.2]
def zipD (ds : List D) : Option (List D) := match ds with
  | [.lst xs, .lst ys] => some ((xs.zip ys).map pairD)
  | [.tup xs, .tup ys] => some ((xs.zip ys).map pairD)
  | _ => none
theorem zip_at {xs ys : List D} {i : Nat} {d : D} (h : ((xs.zip ys).map pairD)[i]? = some d) : ∃ x y, xs[i]? = some x ∧ ys[i]? = some y ∧ d = .tup [x, y] := by
  rw [List.getElem?_map] at h
  cases e : (xs.zip ys)[i]? with
  | none => rw [e] at h; cases h
  | some p =>
    rw [e] at h; cases h
    obtain ⟨h1, h2⟩ := List.getElem?_zip_eq_some.mp e
    exact ⟨p.1, p.2, h1, h2, rfl⟩
theorem zip_end {xs ys : List D} : xs.length ≤ ((xs.zip ys).map pairD).length ∨ ys.length ≤ ((xs.zip ys).map pairD).length := by
  rw [List.length_map, List.length_zip]
  omega
theorem yld_pair {F H : Hp} {T : Addr} {x y : V} {dx dy : D} (st : Same F H) (hT : H T = none) (rx : Rep C F x dx) (ry : Rep C F y dy) : ∃ F'', Grow NoB F H F'' (upd H T (.tup [x, y])) ∧ Rep C F'' (.ref T) (.tup [dx, dy]) := by
  obtain ⟨g, n⟩ := newT st (.cons rx (.cons ry .nil)) hT
  exact ⟨_, g, n⟩
theorem gives_zipL {a b : Addr} {vs ws : List V} {xs ys : List D} {F : Hp} (h : SqL C.K F a vs) (h' : SqL C.K F b ws) (r : RepL C F vs xs) (r' : RepL C F ws ys) : Gives C (Itz C.K a b) ((xs.zip ys).map pairD) F := fun F' H' s1 s2 => by
  have hH : SqL C.K H' a vs := s2.seq (s1.seq h)
  have hH' : SqL C.K H' b ws := s2.seq (s1.seq h')
  refine ⟨fun i d e => ?_, ⟨vs, ws, hH, hH', by rw [r.length, r'.length]; exact zip_end⟩⟩
  obtain ⟨x, y, e1, e2, rfl⟩ := zip_at e
  obtain ⟨v, f1, r1⟩ := r.get e1
  obtain ⟨w, f2, r2⟩ := r'.get e2
  refine ⟨⟨vs, ws, v, w, hH, hH', f1, f2⟩, fun z H'' q => ?_⟩
  obtain ⟨T, x', y', rfl, hT, rfl, q1, q2⟩ := q
  have z1 := q1 vs hH
  have z2 := q2 ws hH'
  rw [f1] at z1; cases z1
  rw [f2] at z2; cases z2
  exact yld_pair s2 hT (r1.mono s1) (r2.mono s1)
theorem gives_zipT {a b : Addr} {vs ws : List V} {xs ys : List D} {F : Hp} (h : SqT C.K F a vs) (h' : SqT C.K F b ws) (r : RepL C F vs xs) (r' : RepL C F ws ys) : Gives C (RZ.ItzT C.K a b) ((xs.zip ys).map pairD) F := fun F' H' s1 s2 => by
  have hH : SqT C.K H' a vs := SqT_mono s2 (SqT_mono s1 h)
  have hH' : SqT C.K H' b ws := SqT_mono s2 (SqT_mono s1 h')
  refine ⟨fun i d e => ?_, ⟨vs, ws, hH, hH', by rw [r.length, r'.length]; exact zip_end⟩⟩
  obtain ⟨x, y, e1, e2, rfl⟩ := zip_at e
  obtain ⟨v, f1, r1⟩ := r.get e1
  obtain ⟨w, f2, r2⟩ := r'.get e2
  refine ⟨⟨vs, ws, v, w, hH, hH', f1, f2⟩, fun z H'' q => ?_⟩
  obtain ⟨T, x', y', rfl, hT, rfl, q1, q2⟩ := q
  have z1 := q1 vs hH
  have z2 := q2 ws hH'
  rw [f1] at z1; cases z1
  rw [f2] at z2; cases z2
  exact yld_pair s2 hT (r1.mono s1) (r2.mono s1)
variable {mr : M (List D)} {e1 e2 : Expr} {elts : List Expr} {kk : Nat} {tpos : Pos}
theorem zipD_inv {ds xs : List D} (h : zipD ds = some xs) : (∃ as bs, ds = [.lst as, .lst bs] ∧ xs = (as.zip bs).map pairD) ∨ ∃ as bs, ds = [.tup as, .tup bs] ∧ xs = (as.zip bs).map pairD := by
  unfold zipD at h
  split at h
  · cases h; exact .inl ⟨_, _, rfl, rfl⟩
  · cases h; exact .inr ⟨_, _, rfl, rfl⟩
  · cases h
theorem mi_zip (hK : X.K = C.K) (hg : Gl X "zip") (hm : X.mg "zip" = none) (ha : PA X [e1, e2] (tA C B W mr))
    (hs : starEach [e1, e2] X.env = (false, eval e1 X.env) :: starEach [e2] X.env := by rfl) (hpl : (backTo pos (starEach [e2] X.env)).any (·.1) = false := by rfl) :
    PI X (.Tuple elts kk tpos) (.Call (.Name "zip" p) [e1, e2] [] pos) (tI C B W (iN zipD mr)) := by
  refine PI.imp (RZ.pi_zipA hg hm ha hs hpl) fun σ H R ⟨F, E, S, q⟩ => ?_
  refine tA_go S q fun ds E1 vs F1 H1 S1 st1 r1 p1 => ?_
  cases hf : zipD ds with
  | none => rw [hf] at p1; exact p1.elim
  | some xs =>
    rw [hf] at p1
    rcases zipD_inv hf with ⟨as, bs, rfl, rfl⟩ | ⟨as, bs, rfl, rfl⟩
    · cases r1 with
      | cons r rr =>
        cases rr with
        | cons r2 rr =>
          cases rr
          cases r with
          | @lst a vs _ hs hr =>
            cases r2 with
            | @lst b ws _ hs2 hr2 =>
              rw [hK]
              exact ⟨a, b, vs, ws, rfl, .inl ⟨SqL.of (S1.fh _ _ hs), SqL.of (S1.fh _ _ hs2), p1 _ F1 H1 S1 st1 (Gives.p (gives_zipL (SqL.of hs) (SqL.of hs2) hr hr2))⟩⟩
    · cases r1 with
      | cons r rr =>
        cases rr with
        | cons r2 rr =>
          cases rr
          cases r with
          | @tup a vs _ hs hr =>
            cases r2 with
            | @tup b ws _ hs2 hr2 =>
              rw [hK]
              exact ⟨a, b, vs, ws, rfl, .inr ⟨SqT_mono S1.fh hs, SqT_mono S1.fh hs2, p1 _ F1 H1 S1 st1 (Gives.p (gives_zipT hs hs2 hr hr2))⟩⟩
/-! ### xs[::-1] of a list -/
def eRev (ma : M RV) : M RV := fun E => (ma E).bind fun r E1 => match r.d with
  | .lst xs => .ok (.fr (.lst xs.reverse)) E1
  | _ => .stuck
theorem me_revL (hK : X.K = C.K) {k : Nat} {p1 p2 p3 : Pos} (ha : PE X a (tE C B W ma)) : PE X (.Subscript a (.Slice none none (some (.UnaryOp .USub (.Constant (.int 1) k p1) p2)) p3) pos) (tE C B W (eRev ma)) := by
  refine PE.imp (pe_revL ha) fun σ H Q ⟨F, E, S, q⟩ => ?_
  refine tE_go S q fun r E1 v F1 H1 S1 st1 r1 p1 => ?_
  cases hd : r.d with
  | lst xs =>
    rw [hd] at r1 p1
    cases r1 with
    | @lst a vs _ hs hr =>
      refine ⟨a, vs, rfl, SqL.of (S1.fh _ _ hs), fun p hp => ?_⟩
      obtain ⟨g, n⟩ := newL S1.fh hr.reverse hp
      obtain ⟨S2, rr⟩ := S1.newR g n
      exact p1 _ _ _ S2 (st1.trans g.fs) rr
  | _ => rw [hd] at p1; exact p1.elim
/-! ### range(a, b, -1) -/
def rgC (lo c : Int) (n : Nat) : List D := (List.range n).map fun (k : Nat) => D.int (lo + k * c)
def rg3 (ds : List D) : Option (List D) := match ds with
  | [.int i, .int j, .int c] => if rgOk i = true ∧ rgOk j = true ∧ c = -1 then some (rgC i (-1) (i - j).toNat) else none
  | _ => none
theorem rg3_inv {ds xs : List D} (h : rg3 ds = some xs) : ∃ i j, ds = [.int i, .int j, .int (-1)] ∧ rgOk i = true ∧ rgOk j = true ∧ xs = rgC i (-1) (i - j).toNat := by
  unfold rg3 at h
  split at h
  · rename_i i j c
    split at h
    · rename_i ok; cases h; obtain ⟨o1, o2, rfl⟩ := ok; exact ⟨i, j, rfl, o1, o2, rfl⟩
    · cases h
  · cases h
theorem gives_rangeC (lo c : Int) (n : Nat) (F : Hp) : Gives C (Itc lo c n) (rgC lo c n) F := fun F' H' s1 s2 => by
  have hl : (rgC lo c n).length = n := by unfold rgC; rw [List.length_map, List.length_range]
  refine ⟨fun i d e => ?_, by rw [hl]; exact Nat.le_refl _⟩
  have hi : i < n := by
    have := (List.getElem?_eq_some_iff.mp e).1
    omega
  have ed : d = .int (lo + i * c) := by
    unfold rgC at e
    rw [List.getElem?_map, List.getElem?_range hi] at e
    exact (Option.some.inj e).symm
  subst ed
  refine ⟨hi, fun x H'' y => ?_⟩
  obtain ⟨rfl, rfl⟩ := y
  exact ⟨F', Grow.refl s2, .int _⟩
theorem mi_range3 {tg c : Expr} (hg : Gl X "range") (hm : X.mg "range" = none) (ha : PA X [a, b, c] (tA C B W mr)) (hs : starEach [a, b, c] X.env = (false, eval a X.env) :: starEach [b, c] X.env := by rfl) (hpl : (backTo pos (starEach [b, c] X.env)).any (·.1) = false := by rfl) :
    PI X tg (.Call (.Name "range" p) [a, b, c] [] pos) (tI C B W (iN rg3 mr)) := by
  refine PI.imp (pi_range3 hg hm ha hs hpl) fun σ H R ⟨F, E, S, q⟩ => ?_
  refine tA_go S q fun ds E1 vs F1 H1 S1 st1 r1 p1 => ?_
  cases hf : rg3 ds with
  | none => rw [hf] at p1; exact p1.elim
  | some xs =>
    rw [hf] at p1
    obtain ⟨i, j, rfl, ok, ok2, rfl⟩ := rg3_inv hf
    obtain ⟨b1, b2⟩ := rgOk_iff ok
    obtain ⟨b3, b4⟩ := rgOk_iff ok2
    cases r1 with
    | cons r rr =>
      cases rr with
      | cons r2 rr =>
        cases rr with
        | cons r3 rr =>
          cases rr
          cases r
          cases r2
          cases r3
          exact ⟨i, j, -1, _, rfl, RgC.neg b1 b2 b3 b4, p1 _ F1 H1 S1 st1 (Gives.p (gives_rangeC i (-1) _ F1))⟩
end
/-! ### x, y = a, b: what is new is owned -/
def setRV (E : Ev) (i : Nat) (r : RV) : Ev := match r with
  | .sh d => E.set i (.sh d)
  | .fr d => E.set i (.ow d)
def sPar2 (i j : Nat) (ma mb : M RV) : M Fl := fun E => (ma E).bind fun ra E1 => (mb E1).bind fun rb E2 => .ok .nx (setRV (setRV E2 i ra) j rb)
section
variable {C : Ctx} {B : Base} {W : WX} {X : Cx} {pos : Pos} {a b : Expr} {ma mb : M RV}
theorem setRV_sim {F H : Hp} {E : Ev} {σ : St} {r : RV} {v : V} (i : Nat) (S : Sim C B F H E σ) (rr : RepR C B F H E σ r v) : Sim C B F H (setRV E i r) (σ.set i (some v)) := by
  have q := setR i S rr
  cases r with
  | sh d => exact q
  | fr d => exact q
theorem Own.obj {F H : Hp} {a : Addr} {d : D} (o : Own C F H a d) : ∃ u, H a = some u ∧ ∀ F' H', Same F F' → F' a = none → H' a = some u → Own C F' H' a d := by
  obtain ⟨n, r⟩ := o
  cases d with
  | lst ds => obtain ⟨vs, e, r⟩ := r; exact ⟨_, e, fun F' H' st n' e' => ⟨n', vs, e', r.mono st⟩⟩
  | dic ds =>
    rcases r with ⟨kvs, e, r⟩ | ⟨kvs, e, r⟩
    · exact ⟨_, e, fun F' H' st n' e' => ⟨n', .inl ⟨kvs, e', r.mono st⟩⟩⟩
    · exact ⟨_, e, fun F' H' st n' e' => ⟨n', .inr ⟨kvs, e', r.mono st⟩⟩⟩
  | obj c fs => obtain ⟨dx, fvs, e, r⟩ := r; exact ⟨_, e, fun F' H' st n' e' => ⟨n', dx, fvs, e', r.mono st⟩⟩
  | _ => exact r.elim
theorem Apart.setOw {E : Ev} {σ : St} {c a : Addr} (h : Apart E σ c) (i : Nat) (d : D) (ne : c ≠ a) (hl : i < σ.length ∨ ¬ i < E.length) : Apart (E.set i (.ow d)) (σ.set i (some (.ref a))) c := fun j s e os z => by
  rw [List.getElem?_set] at e
  split at e
  · rename_i hij
    split at e
    · subst hij
      rcases hl with hl | hl
      · rw [List.getElem?_set_self hl] at z; cases z; exact ne rfl
      · omega
    · cases e
  · rename_i hij
    rw [List.getElem?_set_ne hij] at z
    exact h j s e os z
theorem ms_par2 {i j : Nat} {x y : Str} {px py pt : Pos} {kt k2 pt2} (hc : X.calm = true) (hN : X.N.Nodup) (hi : X.N[i]? = some x) (hj : X.N[j]? = some y) (hij : i ≠ j)
    (hx : X.env.scope.names.lookup x = some .local) (hy : X.env.scope.names.lookup y = some .local) (ha : PE X a (tE C B W ma)) (hb : ∀ B, PE X b (tE C B W mb))
    (hw : swappedStores [.Tuple [.Name x px, .Name y py] kt pt] (.Tuple [a, b] k2 pt2) X.env = pure (some [x, y]))
    (hs : swapsWithSole [.Tuple [.Name x px, .Name y py] kt pt] (.Tuple [a, b] k2 pt2) pos.line X.env = pure false := by rfl)
    (h1 : starEach [a, b] X.env = (false, eval a X.env) :: starEach [b] X.env := by rfl) (h2 : starEach [b] X.env = (false, eval b X.env) :: starEach [] X.env := by rfl) :
    PS X (.Assign [.Tuple [.Name x px, .Name y py] kt pt] (.Tuple [a, b] k2 pt2) pos) (tS C B W (sPar2 i j ma mb)) := by
  refine PS.imp (ps_par hc hN hi hj hij hx hy (pa_cons ha (pa_cons (PE.ex hb) pa_nil h2) h1) hw hs) fun D σ H ⟨F, E, S, p⟩ => ?_
  refine sE_go S p fun ra E1 v F1 H1 S1 st1 rr p1 => ?_
  have fin : ∀ (rb : RV) (E2 : Ev) (w : V) (F2 H2 : Hp), Sim C B F2 H2 E2 σ → Same F1 F2 → RepR C B F2 H2 E2 σ ra v → (RepR C B F2 H2 (setRV E2 i ra) (σ.set i (some v)) rb w) → PostS C B W F1 (kS C B F D) (.ok .nx (setRV (setRV E2 i ra) j rb)) → D.nx ((σ.set i (some v)).set j (some w)) H2 :=
    fun rb E2 w F2 H2 S2 st2 r1 r2 q => q _ F2 H2 (setRV_sim j (setRV_sim i S2 r1) r2) (st1.trans st2)
  cases ra with
  | sh d =>
    refine ⟨B, ?_⟩
    refine sE_go S1 p1 fun rb E2 w F2 H2 S2 st2 rr2 p2 => ?_
    refine ⟨v, w, rfl, fin rb E2 w F2 H2 S2 st2 (Rep.mono st2 rr) ?_ p2⟩
    cases rb with
    | sh e => exact rr2
    | fr e => obtain ⟨b', q1, q2, q3, q4, q5⟩ := rr2; exact ⟨b', q1, q2, q3, q4.set i rfl _, q5⟩
  | fr d =>
    obtain ⟨a', rfl, o, n, ap, pn⟩ := rr
    obtain ⟨u, hu, back⟩ := Own.obj o
    refine ⟨B.pinned a' u, ?_⟩
    have S1p := S1.topin hu o.1 ap
    refine ⟨F1, E1, S1p, ?_⟩
    cases hm : mb E1 with
    | stuck => rw [hm] at p1; exact p1.elim
    | ex x E2 =>
      rw [hm] at p1
      exact fun cls d F2 H2 S2 st2 rx => p1 σ cls d F2 H2 (S2.unpin pn).1 st2 rx
    | ok rb E2 =>
      rw [hm] at p1
      intro w F2 H2 S2 st2 rr2
      obtain ⟨S2', hH, hF, hap⟩ := S2.unpin pn
      have r1 : RepR C B F2 H2 E2 σ (.fr d) (.ref a') := ⟨a', rfl, back F2 H2 st2 hF hH, n, hap, pn⟩
      refine ⟨.ref a', w, rfl, fin rb E2 w F2 H2 S2' st2 r1 ?_ p1⟩
      cases rb with
      | sh e => exact rr2
      | fr e =>
        obtain ⟨b', q1, q2, q3, q4, q5⟩ := rr2
        have nb : b' ≠ a' := fun z => by
          have q5 : L2.upd B.pin a' u b' = none := q5
          rw [z, upd_same] at q5; cases q5
        have q5' : B.pin b' = none := by
          have q5 : L2.upd B.pin a' u b' = none := q5
          rw [upd_ne nb] at q5; exact q5
        have hl := S2.len
        refine ⟨b', q1, q2, q3, q4.setOw i d nb ?_, q5'⟩
        by_cases hlt : i < σ.length
        · exact .inl hlt
        · exact .inr (by rw [← hl]; exact hlt)
end
/-! ### the law's own call -/
theorem FnOk.noX {P : Program} {w : World} {K : PySem.W.Frag} {mg : Str → Option Value} {base : Heap} {k : Nat} {f : Addr} {fd : FuncData} {ps : List Str} {sp : Sp} (F : FnOk P w K mg base (L2.CX P w) k f fd ps sp) :
    FnOk P w K mg base CX0 k f fd ps (fun vs H Q _ => sp vs H Q fun _ _ _ => False) := by
  refine ⟨fun vs H Q E h => F.len vs H Q _ h, fun A outer s H args us vs Q E hr e0 hb rv h => ?_⟩
  refine codeAny_mono (F.run A outer s H args us vs Q _ hr e0 hb rv h) fun r s' hq => ?_
  cases r with
  | error e =>
    obtain ⟨_, _, _, _, _, _, _, _, _, _, _, _, z⟩ := hq
    exact z.elim
  | ok fl =>
    cases fl with
    | ret u => exact hq
    | next => exact False.elim hq
    | brk => exact False.elim hq
    | cont => exact False.elim hq
theorem reps_ints {C : Ctx} {F : Hp} : ∀ ns : List Int, RepL C F (ns.map V.int) (ns.map D.int)
  | [] => .nil
  | n :: ns => .cons (.int n) (reps_ints ns)
theorem law_spec {C : Ctx} {H : Hp} {a : Addr} {ns : List Int} {g : List D → FO} (h : SqL C.K H a (ns.map V.int)) (due : ∃ r, g [.scr (ns.map .int)] = .ok r ∧ r.d = .bl true) : fspec C 1 g [.ref a] H (fun v _ => v = .bl true) fun _ _ _ => False := by
  obtain ⟨r, e, er⟩ := due
  refine ⟨H, [.scr (ns.map .int)], Same.refl H, .cons (.scr h (reps_ints ns)) .nil, rfl, ?_⟩
  rw [e]
  intro v F' H' g n
  cases r with
  | sh d =>
    have er : d = .bl true := er
    subst er
    cases n
    rfl
  | fr d =>
    have er : d = .bl true := er
    subst er
    obtain ⟨_, _, _, _, z⟩ := n
    exact z.elim
section
end
end MM

/-! MM: tuple * int, sums, sorted, max of three. -/
namespace MM
open PySem PySem.Spec PyProof.Rows L2

/-! ### tuple * k for k at most 1 -/
theorem tuple_mul1 (l : Addr) (items : Array Value) (n : Nat) (dd : Option Addr) (sl : Array (Option Value)) (u : Tok) :
    Meets (Builtin.«tuple.__mul__» ⟨[.ref l, .int 1 u], []⟩) (fun _ R s => s.heap.get? l = some { cls := .type "tuple", dict := dd, data := .seq items n, slots := sl } ∧ R (.ok (.ret (Value.ref l))) s) :=
  .of_wp fun prog w A R s h => by
    obtain ⟨hp, g, d, tk, os⟩ := s
    obtain ⟨hl, h⟩ := h
    have f1 := AutoSeq1.idx_int
    have c1 : (items.isEmpty || (1 : Int) == 1) = true := by simp
    wp_walk using wpAny_loadPart' hl
    repeat (first
      | (refine wpAny_ite_true (decide_eq_true c1) ?_; wp_walk using wpAny_loadPart' hl)
      | (rw [if_pos c1]; wp_walk using wpAny_loadPart' hl))
    exact ⟨_, rfl, h⟩
theorem tuple_mul0 (l : Addr) (items : Array Value) (n : Nat) (dd : Option Addr) (sl : Array (Option Value)) (x : Int) (u : Tok) (hx : x ≤ 0) (hx2 : -1000 ≤ x) (hi : items.isEmpty = false) :
    Meets (Builtin.«tuple.__mul__» ⟨[.ref l, .int x u], []⟩) (fun _ R s => s.heap.get? l = some { cls := .type "tuple", dict := dd, data := .seq items n, slots := sl } ∧
      R (.ok (.ret (Value.ref s.heap.objs.size))) { s with heap := s.heap.push { cls := Value.type "tuple", data := Data.seq #[] }, toks := s.toks }) :=
  .of_wp fun prog w A R s h => by
    obtain ⟨hp, g, d, tk, os⟩ := s
    obtain ⟨hl, h⟩ := h
    have f1 := AutoSeq1.idx_int
    have c0 : (decide (x < -(2 ^ 63)) || decide (x ≥ 2 ^ 63)) = false := by
      rw [decide_eq_false (by omega), decide_eq_false (by omega)] <;> rfl
    have c1 : (items.isEmpty || x == 1) = false := by
      rw [hi, Bool.false_or]
      exact beq_eq_false_iff_ne.mpr (by omega)
    have c2 : (decide (x ≤ 0) || items.isEmpty) = true := by
      rw [decide_eq_true hx]
      rfl
    wp_walk using wpAny_loadPart' hl
    repeat (first
      | (refine wpAny_ite_false (decide_eq_false (by rw [c0]; exact Bool.false_ne_true)) ?_; wp_walk using wpAny_loadPart' hl)
      | (refine wpAny_ite_false (decide_eq_false (by rw [c1]; exact Bool.false_ne_true)) ?_; wp_walk using wpAny_loadPart' hl)
      | (refine wpAny_ite_true (decide_eq_true c2) ?_; wp_walk using wpAny_loadPart' hl))
    exact ⟨_, rfl, h⟩

/-! ### * -/
def rRepX (K : PySem.W.Frag) : R2 := fun x y H Q => ∃ l k xs, x = .ref l ∧ y = .int k ∧ SqT K H l xs ∧ xs ≠ [] ∧ -1000 ≤ k ∧ k ≤ 1000 ∧ xs.length ≤ 1000 ∧ (k = 1 → Q (.ref l) H) ∧ (k ≠ 1 → ∀ p, H p = none → Q (.ref p) (upd H p (.tup (List.replicate k.toNat xs).flatten)))
section
variable {X : Cx}
theorem op_repX : OpR X (binaryOp .Mult) (rRepX X.K) := by
  intro pins s σ H x y v u Q I rx ry h
  obtain ⟨l, k, xs, rfl, rfl, hT, hne, h1, h2, hz, q1, q⟩ := h
  by_cases hk : 2 ≤ k
  · exact op_repT pins s σ H _ _ v u Q I rx ry ⟨l, k, xs, rfl, rfl, hT, hne, hk, h2, hz, q (by omega)⟩
  cases rx
  obtain ⟨t, rfl⟩ := ry
  obtain ⟨its, r, ⟨⟨cls, dd, data, sl⟩, ho, hc, n, hd⟩, hs⟩ := I.tuple hT
  simp only at hc hd
  subst hc hd
  have hi : its.toArray.isEmpty = false := by
    cases its with
    | nil => cases r; exact absurd rfl hne
    | cons a b => rfl
  by_cases h1' : k = 1
  · subst h1'
    refine wpAny_binaryOp_repeat_ref (T := "tuple") (U := "int") (by decide) ⟨_, ho, rfl⟩ (fun s' => typeIs_int s' 1 t) noFill_tuple_mul F.fills_int_mul F.slot_int_rmul repeat_tuple F.slot_int_index.lookup
      (call_meets F.slot_int_rmul (typeIs_int s 1 t) F.entry_int_rmul (F.args_int_rmul_2 _ _) (int_rmul_tuple 1 t l its.toArray n dd sl)
        ⟨ho, rfl, ⟨_, ho, rfl⟩, call_meets F.slot_tuple_mul ⟨_, ho, rfl⟩ F.entry_tuple_mul (F.args_tuple_mul_2 _ _) (tuple_mul1 l its.toArray n dd sl t) ⟨ho, ?_⟩⟩)
    exact ⟨.ref l, H, I, rfl, q1 rfl⟩
  · have hk0 : k ≤ 0 := by omega
    refine wpAny_binaryOp_repeat_ref (T := "tuple") (U := "int") (by decide) ⟨_, ho, rfl⟩ (fun s' => typeIs_int s' k t) noFill_tuple_mul F.fills_int_mul F.slot_int_rmul repeat_tuple F.slot_int_index.lookup
      (call_meets F.slot_int_rmul (typeIs_int s k t) F.entry_int_rmul (F.args_int_rmul_2 _ _) (int_rmul_tuple k t l its.toArray n dd sl)
        ⟨ho, rfl, ⟨_, ho, rfl⟩, call_meets F.slot_tuple_mul ⟨_, ho, rfl⟩ F.entry_tuple_mul (F.args_tuple_mul_2 _ _) (tuple_mul0 l its.toArray n dd sl k t hk0 h1 hi) ⟨ho, ?_⟩⟩)
    have e0 : (List.replicate k.toNat xs).flatten = [] := by
      rw [show k.toNat = 0 by omega]
      rfl
    have q' := q h1' s.heap.objs.size I.fresh
    rw [e0] at q'
    exact ⟨.ref s.heap.objs.size, _, I.laid (t' := s.toks) (o := .tup []) (fun b u e => Heap.get?_push_of_some _ e) (Nat.le_refl _) ⟨Nat.zero_le _, [], .nil, ⟨_, Heap.get?_push_size _ rfl, rfl, _, rfl⟩⟩, rfl, q'⟩
end
section
variable {C : Ctx} {X : Cx}
def repD (xs : List D) (k : Nat) : List D := (List.replicate k xs).flatten
def fMul (a b : D) : Option RV := match a, b with
  | .int i, .int j => if mulOk i j = true then some (.sh (.int (i * j))) else none
  | .tup xs, .int k => if xs.isEmpty = false ∧ k ≤ 1000 ∧ -1000 ≤ k ∧ xs.length ≤ 1000 then some (.sh (.tup (repD xs k.toNat))) else none
  | _, _ => none
def rMulA (K : PySem.W.Frag) : R2 := fun x y H Q => rI IntMulOk (fun i j => .int (i * j)) x y H Q ∨ rRepX K x y H Q
theorem op_mulA : OpR X (binaryOp .Mult) (rMulA X.K) := op_mulX.or op_repX
theorem rep_rep {F : Hp} {vs : List V} {ds : List D} (r : RepL C F vs ds) : ∀ k : Nat, RepL C F (List.replicate k vs).flatten (repD ds k)
  | 0 => .nil
  | k + 1 => by
    unfold repD
    rw [List.replicate_succ, List.replicate_succ, List.flatten_cons, List.flatten_cons]
    exact r.append (rep_rep r k)
theorem p_mulA (hK : X.K = C.K) : Pure2 C (rMulA X.K) fMul := by
  intro F H x y dx dy R Q st rx ry e q
  unfold fMul at e
  split at e
  · split at e
    · rename_i hm
      cases e; cases rx; cases ry
      exact .inl ⟨_, _, rfl, rfl, mulOk_ok hm, NewR.same st (.int _) q⟩
    · cases e
  · split at e
    · rename_i hc
      obtain ⟨h0, h1, h2, h3⟩ := hc
      cases e; cases ry
      rename_i ds k
      cases rx with
      | @tup a vs _ hs hr =>
        refine .inr ⟨a, _, vs, rfl, rfl, by rw [hK]; exact SqT_mono st hs, ?_, h2, h1, by rw [hr.length]; exact h3, fun hk => ?_, fun _ p hp => ?_⟩
        · rintro rfl
          cases hr
          cases h0
        · subst hk
          have e : repD ds (1 : Int).toNat = ds := by
            show (List.replicate 1 ds).flatten = ds
            rw [List.replicate_one, List.flatten_singleton]
          rw [e] at q
          exact NewR.same st (.tup hs hr) q
        · obtain ⟨g, n⟩ := newT st (rep_rep hr _) hp
          exact q _ _ _ g n
    · cases e
  · cases e
/-! ### sum -/
theorem sum_take1 : ∀ (ns : List Int) (j : Nat), (ns.take (j + 1)).sum = (ns.take j).sum + ns.getD j 0
  | [], j => by simp
  | n :: ns, 0 => by simp
  | n :: ns, j + 1 => by
    rw [List.take_succ_cons, List.take_succ_cons, List.sum_cons, List.sum_cons, sum_take1 ns j, List.getD_cons_succ]
    omega
theorem preSum_get (ns : List Int) : ∀ j, preSum (fun i => ns.getD i 0) j = (ns.take j).sum
  | 0 => by simp [preSum]
  | j + 1 => by rw [preSum, preSum_get ns j, sum_take1]
theorem sum_tup {prog : Program} {w : World} {A : Around} {E : Value → Shared → Prop} {s : Shared} {l : Addr} {its : List Value} {ns : List Int} {Q : Value → Shared → Prop} (hh : A.handled = none) (hl : IsTup s.heap l its.toArray) (hi : IntsAre its ns)
    (h : ∀ h' tk t', (∀ b o, s.heap.get? b = some o → h'.get? b = some o) → Q (.int ns.sum t') { s with heap := h', toks := tk }) : wpAny (model prog w) A (call (.builtin "sum") [.ref l]) Q E s := by
  have hlt : l < s.heap.objs.size := hl.lt
  have htp : s.heap.IsTuple l its.toArray := hl
  refine call_sum_walkG (wpAny_pyIter_tuple htp ?_)
  refine ⟨_, [_, l], [_], _, _, _, fun i => ns.getD i 0, rfl, Walks.tuple (A := A.in1) hh _ l (Nat.ne_of_lt hlt) its.toArray, ⟨⟨_, Heap.get?_push_size _ rfl, rfl, rfl⟩, htp.push _⟩, fun d hd => ?_, fun i v hv => ?_, fun h' tk t' hk => ?_⟩
  · show d < (s.heap.push _).objs.size
    rw [Heap.size_push]
    rcases List.mem_cons.mp hd with rfl | hd
    · exact Nat.lt_succ_self _
    · rcases List.mem_cons.mp hd with rfl | hd
      · exact Nat.lt_succ_of_lt hlt
      · cases hd
  · replace hv : its[i]? = some v := by simpa using hv
    clear h hl htp hlt
    induction hi generalizing i with
    | nil => simp at hv
    | cons n t r ih =>
      cases i with
      | zero => simp at hv; subst hv; exact ⟨t, rfl⟩
      | succ i =>
        obtain ⟨t', e⟩ := ih i (by simpa using hv)
        exact ⟨t', by simpa using e⟩
  · have hold : ∀ d o, s.heap.get? d = some o → h'.get? d = some o := fun d o e => by
      refine hk d o (fun hm => ?_) (Heap.get?_push_of_some _ e)
      rcases List.mem_cons.mp hm with e1 | hm
      · have := Heap.lt_size e; rw [e1] at this; exact Nat.lt_irrefl _ this
      · cases hm
    have := h h' tk t' hold
    have e : preSum (fun i => ns.getD i 0) its.toArray.size = ns.sum := by
      have hlen := hi.length
      rw [preSum_get, List.size_toArray, hlen, List.take_length]
    rw [e]
    exact this
def fSum (ds : List D) : Option RV := match ds with
  | [d] => (elems d).bind fun xs => (intsD xs).map fun ns => .sh (.int ns.sum)
  | _ => none
def rSumX (K : PySem.W.Frag) : List V → Hp → VK → Prop := fun vs H Q => ∃ (a : Addr) (ns : List Int), vs = [V.ref a] ∧ (SqL K H a (ns.map V.int) ∨ SqT K H a (ns.map V.int)) ∧ Q (.int ns.sum) H
theorem cr_sumX (hc : X.calm = true) : CallR X (.builtin "sum") (rSumX X.K) := by
  intro pins s σ H xs us Q I r h
  obtain ⟨a, ns, rfl, hs | hs, q⟩ := h
  · exact cr_sum hc pins s σ H _ us Q I r ⟨a, ns, rfl, hs, q⟩
  · obtain rfl := Vals.ref1 r
    obtain ⟨its, rv, hl, hz⟩ := I.tuple hs
    exact sum_tup (I.ok.hd hc) hl (Vals.ints rv) fun h' tk t' hk => ⟨.int ns.sum, H, I.kept hk, ⟨_, rfl⟩, q⟩
theorem n_sum (hK : X.K = C.K) : PureN C (rSumX X.K) fSum := by
  intro F H xs ds R Q st r e q
  unfold fSum at e
  split at e
  · obtain ⟨xs, e1, e2⟩ := Option.bind_eq_some_iff.mp e
    obtain ⟨ns, e3, rfl⟩ := Option.map_eq_some_iff.mp e2
    cases r with
    | cons r rr =>
      cases rr
      obtain ⟨p, vs, rfl, hs, hr⟩ := elems_of st r e1
      have := ints_of hr e3
      subst this
      exact ⟨p, ns, rfl, by rw [hK]; exact hs, NewR.same st (.int _) q⟩
  · cases e
/-! ### max(a, b, c) -/
def fMax3 (ds : List D) : Option RV := match ds with
  | [.int a, .int b, .int c] => some (.sh (.int (if b > a then (if c > b then c else b) else (if c > a then c else a))))
  | _ => none
def rMax3 : List V → Hp → VK → Prop := fun xs H Q => ∃ a b c, xs = [.int a, .int b, .int c] ∧ Q (.int (if b > a then (if c > b then c else b) else (if c > a then c else a))) H
theorem cr_max3 (hc : X.calm = true) : CallR X (.builtin "max") rMax3 := by
  intro pins s σ H xs us Q I r h
  obtain ⟨a, b, c, rfl, q⟩ := h
  cases r with
  | cons r1 r => cases r with
    | cons r2 r => cases r with
      | cons r3 r =>
        cases r
        obtain ⟨t, rfl⟩ := r1
        obtain ⟨u, rfl⟩ := r2
        obtain ⟨x, rfl⟩ := r3
        refine max_three_ints (I.ok.hd hc) fun h' tk hk => ⟨_, H, I.kept hk, ?_, q⟩
        split <;> split <;> exact ⟨_, rfl⟩
theorem n_max3 : PureN C rMax3 fMax3 := by
  intro F H xs ds R Q st r e q
  unfold fMax3 at e
  split at e
  · cases e
    cases r with
    | cons r1 r => cases r with
      | cons r2 r => cases r with
        | cons r3 r =>
          cases r; cases r1; cases r2; cases r3
          exact ⟨_, _, _, rfl, NewR.same st (.int _) q⟩
  · cases e
end

/-! ### sorted of tuples of ints -/
open SrtO HT
theorem lex_asym : ∀ ns ms : List Int, HT.lexLt ns ms = true → HT.lexLt ms ns = false
  | [], [], h => by cases h
  | [], _ :: _, _ => rfl
  | _ :: _, [], h => by cases h
  | x :: ns, y :: ms, h => by
    rw [HT.lexLt_cons] at h ⊢
    by_cases e : x = y
    · rw [if_pos e] at h
      rw [if_pos e.symm]
      exact lex_asym ns ms h
    · rw [if_neg e] at h
      rw [if_neg (Ne.symm e)]
      have := of_decide_eq_true h
      exact decide_eq_false (by omega)
theorem lex_tr : ∀ x y z : List Int, HT.lexLt y x = false → HT.lexLt z y = false → HT.lexLt z x = false
  | [], [], z, h1, h2 => h2
  | [], _ :: _, [], h1, h2 => rfl
  | [], _ :: _, _ :: _, h1, h2 => rfl
  | _ :: _, [], _, h1, h2 => by cases h1
  | _ :: _, _ :: _, [], h1, h2 => by cases h2
  | a :: x, b :: y, c :: z, h1, h2 => by
    rw [HT.lexLt_cons] at h1 h2 ⊢
    by_cases e1 : b = a
    · rw [if_pos e1] at h1
      by_cases e2 : c = b
      · rw [if_pos e2] at h2
        rw [if_pos (e2.trans e1)]
        exact lex_tr x y z h1 h2
      · rw [if_neg e2] at h2
        rw [if_neg (fun q => e2 (q.trans e1.symm))]
        have := of_decide_eq_false h2
        exact decide_eq_false (by omega)
    · rw [if_neg e1] at h1
      have h1 := of_decide_eq_false h1
      by_cases e2 : c = b
      · rw [if_neg (fun q => e1 (e2.symm.trans q))]
        exact decide_eq_false (by omega)
      · rw [if_neg e2] at h2
        have h2 := of_decide_eq_false h2
        rw [if_neg (by omega)]
        exact decide_eq_false (by omega)
theorem lex_anti : ∀ x y : List Int, HT.lexLt x y = false → HT.lexLt y x = false → x = y
  | [], [], _, _ => rfl
  | [], _ :: _, h, _ => by cases h
  | _ :: _, [], _, h => by cases h
  | a :: x, b :: y, h1, h2 => by
    rw [HT.lexLt_cons] at h1 h2
    by_cases e : a = b
    · rw [if_pos e] at h1
      rw [if_pos e.symm] at h2
      rw [e, lex_anti x y h1 h2]
    · rw [if_neg e] at h1
      rw [if_neg (Ne.symm e)] at h2
      have := of_decide_eq_false h1
      have := of_decide_eq_false h2
      omega
def insL (x : List Int) : List (List Int) → List (List Int)
  | [] => [x]
  | y :: r => if HT.lexLt y x = true then y :: insL x r else x :: y :: r
def sortL : List (List Int) → List (List Int)
  | [] => []
  | x :: r => insL x (sortL r)
theorem insL_perm (x : List Int) : ∀ r, (insL x r).Perm (x :: r)
  | [] => List.Perm.refl _
  | y :: r => by
    unfold insL
    split
    · exact ((insL_perm x r).cons y).trans (List.Perm.swap x y r)
    · exact List.Perm.refl _
theorem sortL_perm : ∀ r, (sortL r).Perm r
  | [] => List.Perm.refl _
  | x :: r => (insL_perm x (sortL r)).trans ((sortL_perm r).cons x)
abbrev SL (l : List (List Int)) : Prop := l.Pairwise fun a b => HT.lexLt b a = false
theorem insL_sorted (x : List Int) : ∀ r, SL r → SL (insL x r)
  | [], _ => List.pairwise_singleton _ _
  | y :: r, h => by
    obtain ⟨h1, h2⟩ := List.pairwise_cons.mp h
    unfold insL
    split
    · rename_i hyx
      refine List.pairwise_cons.mpr ⟨fun z hz => ?_, insL_sorted x r h2⟩
      rcases List.mem_cons.mp ((insL_perm x r).mem_iff.mp hz) with rfl | hz
      · exact lex_asym _ _ hyx
      · exact h1 z hz
    · rename_i hyx
      have hyx : HT.lexLt y x = false := by simpa using hyx
      refine List.pairwise_cons.mpr ⟨fun z hz => ?_, h⟩
      rcases List.mem_cons.mp hz with rfl | hz
      · exact hyx
      · exact lex_tr x y z hyx (h1 z hz)
theorem sortL_sorted : ∀ r, SL (sortL r)
  | [] => List.Pairwise.nil
  | x :: r => insL_sorted x _ (sortL_sorted r)
theorem SL.uniq : ∀ {a b : List (List Int)}, SL a → SL b → a.Perm b → a = b
  | [], b, _, _, p => (List.Perm.nil_eq p)
  | x :: a, [], _, _, p => absurd p.length_eq (by simp)
  | x :: a, y :: b, ha, hb, p => by
    obtain ⟨a1, a2⟩ := List.pairwise_cons.mp ha
    obtain ⟨b1, b2⟩ := List.pairwise_cons.mp hb
    have e : x = y := by
      have hx := p.mem_iff.mp List.mem_cons_self
      have hy := p.mem_iff.mpr List.mem_cons_self
      rcases List.mem_cons.mp hx with e | hx
      · exact e
      · rcases List.mem_cons.mp hy with e | hy
        · exact e.symm
        · exact lex_anti x y (b1 x hx) (a1 y hy)
    subst e
    rw [SL.uniq a2 b2 p.cons_inv]
theorem sortL_of {a b : List (List Int)} (h : SL a) (p : a.Perm b) : a = sortL b := SL.uniq h (sortL_sorted b) (p.trans (sortL_perm b).symm)
section
variable {prog : Program} {w : World} {A : Around} {E : Value → Shared → Prop} {s : Shared}
theorem lex_kat {Q : Bool → Shared → Prop} : ∀ (vs us : List Value) (ns ms : List Int) (i : Nat), IntsAre vs ns → IntsAre us ms → Q (HT.lexLt ns ms) s → PySem.W.KatLex prog w A true (decide (vs.length < us.length)) Q (vs.zip us) i s
  | _, _, _, _, i, .nil, .nil, h => h
  | _, _, _, _, i, .nil, .cons _ _ _, h => by
    refine PySem.W.kat_nil ?_
    rw [decide_eq_true (by simp)]
    exact h
  | _, _, _, _, i, .cons _ _ _, .nil, h => by
    refine PySem.W.kat_nil ?_
    rw [decide_eq_false (by simp)]
    exact h
  | _, _, _, _, i, .cons (vs := vs) (ns := ns) x t r, .cons (vs := us) (ns := ms) y u r', h => by
    have hl : decide ((Value.int x t :: vs).length < (Value.int y u :: us).length) = decide (vs.length < us.length) := by
      simp only [List.length_cons, Nat.add_lt_add_iff_right]
    rw [hl, List.zip_cons_cons]
    rw [HT.lexLt_cons] at h
    refine PySem.W.kat_cons (SeqAt.EqAt.int_int x t y u prog w _ _ ?_)
    refine PySem.W.kat_go (fun e1 => ?_) (fun e1 => ?_)
    · have ex : x = y := by simpa using e1
      rw [if_pos ex] at h
      exact PySem.W.kat_yes (lex_kat vs us ns ms (i + 1) r r' h)
    · have ex : ¬ x = y := by simpa using e1
      rw [if_neg ex] at h
      exact PySem.W.kat_no (TS.oneLt_ints _ h)
theorem lex_cmp {vs : List Value} {k : Value → List Int} (hp : ∀ v ∈ vs, TS.TupInts s.heap v (k v)) : Cmp prog w A s (tuples' true) (fun p => p.1 ∈ vs) (lt2 fun v u => HT.lexLt (k v) (k u)) := by
  intro p q hm hm'
  obtain ⟨a, xs, e, ⟨o, ho, hc, n, hd⟩, i⟩ := hp _ hm
  obtain ⟨a', xs', e', ⟨o', ho', hc', n', hd'⟩, i'⟩ := hp _ hm'
  show wpAny (model prog w) A (keyLt' (tuples' true) p.1 q.1) (fun r s' => s' = s ∧ r = HT.lexLt (k p.1) (k q.1)) (fun _ _ => False) s
  rw [e, e'] at *
  refine PySem.W.kat_lt ho hd ho' hd' ?_
  have := lex_kat (prog := prog) (w := w) (A := A) (s := s) (Q := fun r s' => s' = s ∧ r = HT.lexLt (k (.ref a)) (k (.ref a'))) xs.toList xs'.toList _ _ 0 i i' ⟨rfl, rfl⟩
  simpa using this
theorem lex_firsts {h : Heap} {k : Value → List Int} : ∀ vs : List Value, (∀ v ∈ vs, TS.TupInts h v (k v) ∧ k v ≠ []) → ∃ fs, PySem.W.KatTups h vs fs ∧ fs.length = vs.length ∧ ∀ f, f ∈ fs → ∃ n t, f = Value.int n t
  | [], _ => ⟨[], PySem.W.KatTups.nil, rfl, fun f hf => by simp at hf⟩
  | v :: vs, x => by
    obtain ⟨fs, kk, hl, hi⟩ := lex_firsts vs fun u hu => x u (List.mem_cons_of_mem _ hu)
    obtain ⟨⟨a, xs, rfl, ⟨o, ho, hc, n, hdt⟩, i⟩, hne⟩ := x v (List.mem_cons_self ..)
    obtain ⟨y, ys, e⟩ : ∃ y ys, xs.toList = y :: ys := by
      cases q : xs.toList with
      | nil =>
        rw [q] at i
        have l := i.length
        exact absurd (List.eq_nil_of_length_eq_zero l.symm) hne
      | cons y ys => exact ⟨y, ys, rfl⟩
    obtain ⟨m, t, hy⟩ := i.all y (by rw [e]; exact List.mem_cons_self ..)
    refine ⟨y :: fs, PySem.W.KatTups.cons ho hc hdt ?_ kk, by simp [hl], ?_⟩
    · have z := congrArg (fun l : List Value => l[0]?) e
      simpa using z
    · intro f hf
      rcases List.mem_cons.mp hf with rfl | hf
      · exact ⟨m, t, hy⟩
      · exact hi f hf
theorem lex_sortable {a : Addr} {vs : List Value} {k : Value → List Int} (h0 : 0 < vs.length) (hp : ∀ v ∈ vs, TS.TupInts s.heap v (k v) ∧ k v ≠ []) (ha : ∀ o, s.heap.get? a = some o → o.cls ≠ .type "tuple") : SortableO prog w A s a vs fun v u => HT.lexLt (k v) (k u) := by
  intro h' keep
  have hp' : ∀ v ∈ vs, TS.TupInts h' v (k v) ∧ k v ≠ [] := fun v hm => ⟨(hp v hm).1.keeps fun b o e c => keep b o (fun z => by subst z; exact ha o e c) e, (hp v hm).2⟩
  obtain ⟨fs, h1, h2, h3⟩ := lex_firsts vs hp'
  refine ⟨tuples' true, fun Q E hq => ?_, lex_cmp fun v hm => (hp' v hm).1⟩
  refine PySem.W.kat_kind (T := .type "int") h1 (by omega) (fun f hm => ?_) (by rfl) ?_
  · obtain ⟨x, t, rfl⟩ := h3 f hm
    exact PySem.W.Looks.now
  · have e : (Value.type "int" != Value.type "tuple") = true := by first | decide +kernel | rfl | decide
    rw [e]
    exact hq
theorem lex_swo (k : Value → List Int) : Swo fun v u => HT.lexLt (k v) (k u) := ⟨fun x y h => lex_asym _ _ h, fun x y z h1 h2 => lex_tr _ _ _ h1 h2⟩
theorem sorted_lex {l : Addr} {vs : List Value} {k : Value → List Int} {Q : Value → Shared → Prop} (hl : s.heap.IsList l vs.toArray) (hz : vs.length ≤ sizeLine) (hp : 2 ≤ vs.length → ∀ v ∈ vs, TS.TupInts s.heap v (k v) ∧ k v ≠ [])
    (h : ∀ (h' : Heap) (d : Addr) (out : List Value), (out.Pairwise fun v u => HT.lexLt (k u) (k v) = false) → out.Perm vs → (∀ b o, s.heap.get? b = some o → h'.get? b = some o) → s.heap.objs.size ≤ d → (∃ n, h'.get? d = some (seqObj "list" out.toArray n)) → Q (.ref d) { s with heap := h' }) :
    wpAny (model prog w) A (call (.builtin "sorted") [.ref l]) Q E s := by
  refine sorted_ord (lex_swo k) hl hz (fun h2 h₁ a ha kk => ?_) fun out hs hb => ?_
  · refine lex_sortable (s := { s with heap := h₁ }) (by omega) (fun v hm => ⟨(hp h2 v hm).1.keeps fun b o e _ => (kk b o e).2, (hp h2 v hm).2⟩) fun o e => ?_
    have e' : some o = some (seqObj "list" vs.toArray 0) := e.symm.trans ha
    cases e'
    intro c
    exact absurd (Value.type.inj c) (by decide)
  · exact h _ _ out hs hb.perm (fun b o e => sortedAll_old e) (Nat.le_succ _) (sortedAll_at s.heap vs out.toArray)
end
end MM

/-! MM: sorted, backward slices of tuples. -/
namespace MM
open PySem PySem.Spec PyProof.Rows L2

section
variable {C : Ctx} {X : Cx}
/-- sorted of a list of tuples of ints: their addresses, with the ints -/
def rSortedX (K : PySem.W.Frag) : List V → Hp → VK → Prop := fun vs H Q => ∃ (a : Addr) (L : List (Addr × List Int)), vs = [V.ref a] ∧ SqL K H a (L.map fun p => V.ref p.1) ∧ (∀ p ∈ L, SqT K H p.1 (p.2.map V.int)) ∧ (2 ≤ L.length → ∀ p ∈ L, p.2 ≠ []) ∧
  ∀ (M : List (Addr × List Int)) p, (M.Pairwise fun x y => HT.lexLt y.2 x.2 = false) → M.Perm L → H p = none → Q (.ref p) (upd H p (.lst (M.map fun p => V.ref p.1)))
def keyIn (L : List (Addr × List Int)) : Value → List Int
  | .ref t => ((L.find? fun p => p.1 == t).map (·.2)).getD []
  | _ => []
def adrOf : Value → Addr
  | .ref t => t
  | _ => 0
theorem keyIn_of {L : List (Addr × List Int)} (hu : ∀ p ∈ L, ∀ q ∈ L, p.1 = q.1 → p.2 = q.2) {p : Addr × List Int} (h : p ∈ L) : keyIn L (.ref p.1) = p.2 := by
  show ((L.find? fun q => q.1 == p.1).map (·.2)).getD [] = p.2
  cases e : L.find? (fun q => q.1 == p.1) with
  | none => exact absurd (List.find?_eq_none.mp e p h) (by simp)
  | some q =>
    have h1 := List.mem_of_find?_eq_some e
    have h2 := List.find?_some e
    exact hu q h1 p h (by simpa using h2)
theorem valsRef : ∀ {L : List (Addr × List Int)} {us : List Value}, Vals (L.map fun p => V.ref p.1) us → us = L.map fun p => Value.ref p.1
  | [], _, h => by cases h; rfl
  | p :: L, _, h => by
    cases h with
    | cons r rr =>
      have e : _ = Value.ref p.1 := r
      rw [e, valsRef rr]
      rfl
theorem mapInt_inj : ∀ {a b : List Int}, a.map V.int = b.map V.int → a = b
  | [], [], _ => rfl
  | [], _ :: _, h => by cases h
  | _ :: _, [], h => by cases h
  | x :: a, y :: b, h => by
    rw [List.map_cons, List.map_cons] at h
    injection h with h1 h2
    injection h1 with h1
    rw [h1, mapInt_inj h2]
theorem cr_sortedX : CallR X (.builtin "sorted") (rSortedX X.K) := by
  intro pins s σ H vs us Q I r h
  obtain ⟨a, L, rfl, hs, hx, hne, q⟩ := h
  obtain ⟨its, rv, hl, hz⟩ := I.list hs
  obtain ⟨u, rfl, ru⟩ := vals1 r
  obtain rfl : u = Value.ref a := ru
  have e1 := valsRef rv
  have hu : ∀ p ∈ L, ∀ q ∈ L, p.1 = q.1 → p.2 = q.2 := fun p hp q hq e => by
    have h1 := hx p hp
    have h2 := hx q hq
    rw [← e] at h2
    exact mapInt_inj (I.tuple_inj h1 h2)
  have hk := fun {p} h => keyIn_of hu (p := p) h
  have hlen : its.length = L.length := by rw [e1, List.length_map]
  refine sorted_lex (k := keyIn L) hl.isList (by rw [hlen]; rw [List.length_map] at hz; exact hz) (fun h2 v hv => ?_) fun h' d out h1 h2 kp hd hn => ?_
  · rw [e1] at hv
    obtain ⟨p, hp, rfl⟩ := List.mem_map.mp hv
    obtain ⟨its2, r2, it2, _⟩ := I.tuple (hx p hp)
    rw [hk hp]
    exact ⟨⟨p.1, its2.toArray, rfl, it2, Vals.ints r2⟩, hne (by rw [← hlen]; exact h2) p hp⟩
  · have h3 : ∀ u ∈ out, ∃ p ∈ L, u = Value.ref p.1 := fun u hu => by
      have := h2.mem_iff.mp hu
      rw [e1] at this
      obtain ⟨p, hp, e⟩ := List.mem_map.mp this
      exact ⟨p, hp, e.symm⟩
    obtain ⟨n, hn⟩ := hn
    have em : ∀ l : List Value, (∀ u ∈ l, ∃ p ∈ L, u = Value.ref p.1) → Vals ((l.map fun u => (adrOf u, keyIn L u)).map fun p => V.ref p.1) l := fun l => by
      induction l with
      | nil => intro _; exact .nil
      | cons u l ih =>
        intro hh
        obtain ⟨p, hp, e⟩ := hh u List.mem_cons_self
        refine .cons ?_ (ih fun w hw => hh w (List.mem_cons_of_mem _ hw))
        rw [e]
        exact (rfl : Value.ref _ = Value.ref _)
    have hb : (out.map fun u => (adrOf u, keyIn L u)).Perm L := by
      have := h2.map fun u => (adrOf u, keyIn L u)
      rw [e1, List.map_map] at this
      have e : L.map ((fun u => (adrOf u, keyIn L u)) ∘ fun p => Value.ref p.1) = L := by
        have : ∀ p ∈ L, ((fun u => (adrOf u, keyIn L u)) ∘ fun p : Addr × List Int => Value.ref p.1) p = p := fun p hp => by
          show (p.1, keyIn L (.ref p.1)) = p
          rw [hk hp]
        rw [List.map_congr_left this, List.map_id'']
        exact fun _ => rfl
      rw [e] at this
      exact this
    refine ⟨.ref d, upd H d (.lst ((out.map fun u => (adrOf u, keyIn L u)).map fun p => V.ref p.1)), I.laid (t' := s.toks) kp hd ⟨?_, out, n, em out h3, hn⟩, rfl, q _ d (List.pairwise_map.mpr h1) hb (I.hok.fresh hd)⟩
    rw [List.length_map, hb.length_eq, ← List.length_map (f := fun p : Addr × List Int => V.ref p.1)]
    exact hz
/-- tuples of ints, as lists of ints -/
def tupsD : List D → Option (List (List Int))
  | [] => some []
  | .tup xs :: r => match intsD xs, tupsD r with
    | some ns, some l => some (ns :: l)
    | _, _ => none
  | _ => none
theorem tups_of {F : Hp} : ∀ {vs : List V} {ds : List D} {l : List (List Int)}, RepL C F vs ds → tupsD ds = some l → ∃ L : List (Addr × List Int), vs = (L.map fun p => V.ref p.1) ∧ L.map (·.2) = l ∧ ∀ p ∈ L, SqT C.K F p.1 (p.2.map V.int)
  | _, _, _, .nil, h => by
    cases h
    exact ⟨[], rfl, rfl, fun p hp => absurd hp (by simp)⟩
  | _, _, _, .cons r rr, h => by
    unfold tupsD at h
    split at h
    · rename_i e; cases e
    · rename_i xs rest e
      cases e
      split at h
      · rename_i ns l h1 h2
        cases h
        obtain ⟨L, e1, e2, e3⟩ := tups_of rr h2
        cases r with
        | @tup a ws _ hs hr =>
          have := ints_of hr h1
          subst this
          refine ⟨(a, ns) :: L, by rw [e1]; rfl, by rw [List.map_cons, e2], fun p hp => ?_⟩
          rcases List.mem_cons.mp hp with rfl | hp
          · exact hs
          · exact e3 p hp
      · cases h
    · cases h
theorem rep_ints {F : Hp} : ∀ ns : List Int, RepL C F (ns.map V.int) (ns.map D.int)
  | [] => .nil
  | n :: ns => .cons (.int n) (rep_ints ns)
theorem rep_tups {F : Hp} : ∀ {M : List (Addr × List Int)}, (∀ p ∈ M, SqT C.K F p.1 (p.2.map V.int)) → RepL C F (M.map fun p => V.ref p.1) (M.map fun p => D.tup (p.2.map .int))
  | [], _ => .nil
  | p :: M, h => .cons (.tup (h p List.mem_cons_self) (rep_ints p.2)) (rep_tups fun q hq => h q (List.mem_cons_of_mem _ hq))
def sortOk (l : List (List Int)) : Bool := decide (l.length < 2) || l.all fun x => !x.isEmpty
def fSorted (ds : List D) : Option RV := match ds with
  | [.lst xs] => (tupsD xs).bind fun l => if sortOk l = true then some (.fr (.lst ((sortL l).map fun x => .tup (x.map .int)))) else none
  | _ => none
theorem n_sorted (hK : X.K = C.K) : PureN C (rSortedX X.K) fSorted := by
  intro F H xs ds R Q st r e q
  unfold fSorted at e
  split at e
  · obtain ⟨l, e1, e2⟩ := Option.bind_eq_some_iff.mp e
    split at e2
    · rename_i ok
      cases e2
      cases r with
      | cons r rr =>
        cases rr
        cases r with
        | @lst a vs _ hs hr =>
          obtain ⟨L, rfl, rfl, h3⟩ := tups_of hr e1
          refine ⟨a, L, rfl, by rw [hK]; exact SqL.of (st _ _ hs), fun p hp => by rw [hK]; exact SqT_mono st (h3 p hp), fun h2 p hp e => ?_, fun M p h1 h2 hp => ?_⟩
          · unfold sortOk at ok
            rw [Bool.or_eq_true] at ok
            rcases ok with ok | ok
            · have := of_decide_eq_true ok
              rw [List.length_map] at this
              omega
            · have := List.all_eq_true.mp ok p.2 (List.mem_map.mpr ⟨p, hp, rfl⟩)
              rw [e] at this
              cases this
          · have e : (sortL (L.map (·.2))).map (fun x => D.tup (x.map .int)) = M.map fun p => D.tup (p.2.map .int) := by
              rw [← sortL_of (List.pairwise_map.mpr h1) (h2.map _), List.map_map]
              rfl
            rw [e] at q
            obtain ⟨g, n⟩ := newL st (rep_tups fun p hp => h3 p (h2.mem_iff.mp hp)) hp
            exact q _ _ _ g n
    · cases e2
  · cases e
end

/-! ### t[::-1] -/
section
variable {prog : Program} {w : World} {A : Around} {E : Value → Shared → Prop} {s : Shared}
theorem applied_back {sl : Addr} {vl vu vs : Value} {n : Nat} {Q : Int × Int × Nat → Shared → Prop} (hs : s.heap.IsSliceOf sl vl vu vs) (pl : IsPart vl none) (pu : IsPart vu none) (ps : IsPart vs (some (-1)))
    (h : Q ((n : Int) - 1, -1, n) s) : wpAny (model prog w) A (Builtin.Slice.sliceApplied (.ref sl) (pure (n : Int))) Q E s := by
  obtain ⟨os, hos, hcs, hds⟩ := id hs
  unfold Builtin.Slice.sliceApplied
  unfold Builtin.Slice.sliceFields
  refine wpAny_bind (wpAny_bind (wpAny_field hos hds (x := vl) rfl (wpAny_bind (wpAny_field hos hds (x := vu) rfl (wpAny_bind (wpAny_field hos hds (x := vs) rfl (wpAny_pure ?_)))))))
  refine wpAny_bind (HT.slicePart_ ps ?_)
  show wpAny _ _ (if ((-1 : Int) == 0) = true then _ else _) _ _ s
  rw [if_neg (by decide)]
  refine wpAny_bind (HT.slicePart_ pl (wpAny_bind (HT.slicePart_ pu (wpAny_bind (wpAny_pure ?_)))))
  have e1 : Builtin.Slice.sliceAdjust none none (-1) (n : Int) = ((n : Int) - 1, -1) := by
    unfold Builtin.Slice.sliceAdjust
    rfl
  have e2 : Builtin.Slice.slicePlaces ((n : Int) - 1) (-1) (-1) = n := by
    unfold Builtin.Slice.slicePlaces
    rw [if_neg (by decide)]
    have : ((n : Int) - 1 - -1 - 1) / (- -1) = (n : Int) - 1 := by
      rw [show (- -1 : Int) = 1 by decide, Int.ediv_one]
      omega
    rw [this]
    split <;> omega
  show wpAny _ _ (match Builtin.Slice.sliceAdjust none none (-1) (n : Int) with | (lo, hi) => pure (lo, (-1 : Int), Builtin.Slice.slicePlaces lo hi (-1))) _ _ s
  rw [e1]
  show wpAny _ _ (pure ((n : Int) - 1, (-1 : Int), Builtin.Slice.slicePlaces ((n : Int) - 1) (-1) (-1))) _ _ s
  rw [e2]
  exact wpAny_pure h
theorem pick_back (xs : Array Value) : ((List.range xs.size).filterMap fun (m : Nat) => xs[(((xs.size : Int) - 1) + (m : Int) * -1).toNat]?).toArray = xs.toList.reverse.toArray := by
  have e : (fun (m : Nat) => xs[(((xs.size : Int) - 1) + (m : Int) * -1).toNat]?) = (fun k => xs[k]?) ∘ fun m => xs.size - 1 - m := by
    funext m
    have : (((xs.size : Int) - 1) + (m : Int) * -1).toNat = xs.size - 1 - m := by omega
    show xs[(((xs.size : Int) - 1) + (m : Int) * -1).toNat]? = xs[xs.size - 1 - m]?
    rw [this]
  rw [e, ← List.filterMap_map, PySem.W.krv_range, List.filterMap_reverse, PySem.W.krv_all]
theorem tuple_back {t sl : Addr} {items : Array Value} {vl vu vs : Value} {Q : Value → Shared → Prop} (ht : IsTup s.heap t items) (hs : s.heap.IsSliceOf sl vl vu vs) (pl : IsPart vl none) (pu : IsPart vu none) (ps : IsPart vs (some (-1)))
    (h : Q (.ref s.heap.objs.size) { s with heap := s.heap.push { cls := .type "tuple", data := .seq items.toList.reverse.toArray } })
    (hsz : items.size ≤ sizeLine) : wpAny (model prog w) A (getItem (.ref t) (.ref sl)) Q E s := by
  have hok : sizeOk (.seq items.toList.reverse.toArray) := by
    show items.toList.reverse.toArray.size ≤ sizeLine
    rw [List.size_toArray, List.length_reverse, Array.length_toList]
    exact hsz
  obtain ⟨os, hos, hcs, hds⟩ := id hs
  have hTs : s.TypeIs (.ref sl) "slice" := ⟨os, hos, hcs⟩
  unfold getItem
  try with_reducible refine wpAny_holding ?_
  first | refine wpAny_bind (wpAny_pure ?_) | skip
  refine wpAny_bind (wpAny_sequenceKey ht.typeIs (by decide) ?_)
  refine wpAny_bind (wpAny_callSpecial?_slot (name := Str.ofString "__getitem__") ht.typeIs PyProof.Rows.slot_tuple_getitem
    (wpAny_call_entry PyProof.Rows.slot_tuple_getitem ht.typeIs PyProof.Rows.entry_tuple_getitem ?_ (PyProof.Rows.args_tuple_getitem _ _)))
  show wpAny _ _ (Builtin.Tuple.tupleItemsOf (.ref t) >>= _) _ _ s
  refine wpAny_bind (tupleItemsOf_ ht ?_)
  refine wpAny_bind (wpAny_typeOf hTs ?_)
  rw [if_pos (by decide)]
  refine wpAny_bind (applied_back hs pl pu ps ?_)
  show wpAny _ _ (if (((items.size : Int) - 1 == 0) && (-1 : Int) == 1 && items.size == items.size) = true then _ else _) _ _ s
  have hno : ¬ ((((items.size : Int) - 1 == 0) && (-1 : Int) == 1 && items.size == items.size) = true) := by
    rw [show ((-1 : Int) == 1) = false by decide, Bool.and_false, Bool.false_and]
    exact Bool.false_ne_true
  rw [if_neg hno, pick_back]
  first
    | exact wpAny_bind (m := Builtin.Tuple.tupleExact _) (wpAny_newObj_type (wpAny_pure ⟨_, rfl, wpAny_pure h⟩) hok)
    | exact wpAny_bind (m := Builtin.Tuple.tupleExact _) (wpAny_newObj_type (wpAny_bind (wpAny_pure (wpAny_pure ⟨_, rfl, wpAny_pure h⟩))) hok)
    | exact wpAny_bind (wpAny_bind (m := Builtin.Tuple.tupleExact _) (wpAny_newObj_type (wpAny_pure (wpAny_pure ⟨_, rfl, wpAny_pure h⟩)) hok))
    | exact wpAny_bind (wpAny_bind (m := Builtin.Tuple.tupleExact _) (wpAny_newObj_type (wpAny_pure ⟨_, rfl, wpAny_pure h⟩) hok))
end
section
variable {C : Ctx} {X : Cx} {B : Base} {W : WX}
def tRevX (K : PySem.W.Frag) (te : TE) : TE := fun σ H Q => te σ H fun x H1 => (∃ a xs, x = .ref a ∧ SqL K H1 a xs ∧ ∀ p, H1 p = none → Q (.ref p) (upd H1 p (.lst xs.reverse))) ∨ (∃ a xs, x = .ref a ∧ SqT K H1 a xs ∧ ∀ p, H1 p = none → Q (.ref p) (upd H1 p (.tup xs.reverse)))
theorem pe_revX {e : Expr} {te : TE} {k : Nat} {p1 p2 p3 pos : Pos} (he : PE X e te) : PE X (.Subscript e (.Slice none none (some (.UnaryOp .USub (.Constant (.int 1) k p1) p2)) p3) pos) (tRevX X.K te) := by
  refine ⟨fun pins s σ H Q I h => ?_⟩
  refine Subscript_ (thn (he.run pins s σ H _ I h) fun v s1 ⟨x, H1, I1, r1, q1⟩ => ?_)
  have hst : PO X (some (.UnaryOp .USub (.Constant (.int 1) k p1) p2)) (tPart (tUn (rU fun i => .int (-i)) (tC (.int 1)))) := po_some (pe_un un_neg pe_int)
  refine wpAny_Slice (thn (po_none.run pins s1 σ H1 (fun o H2 => o = none ∧ H2 = H1) I1 ⟨rfl, rfl⟩) fun vl s2 ⟨l, H2, I2, pl, el, e2⟩ => ?_)
  subst el e2
  refine thn (po_none.run pins s2 σ H2 (fun o H3 => o = none ∧ H3 = H2) I2 ⟨rfl, rfl⟩) fun vu s3 ⟨u, H3, I3, pu, eu, e3⟩ => ?_
  subst eu e3
  refine thn (hst.run pins s3 σ H3 (fun o H4 => o = some (-1) ∧ H4 = H3) I3 ⟨1, rfl, -1, rfl, rfl, rfl⟩) fun vs s4 ⟨o, H4, I4, ps, eo, e4⟩ => ?_
  subst eo e4
  have I5 : Inv X pins σ H4 { s4 with heap := s4.heap.push { cls := .type "slice", data := .fields #[vl, vu, vs] } } := I4.kept (t' := s4.toks) fun b ob q => Heap.get?_push_of_some _ q
  show wpAny (model X.prog X.w) X.A (subscriptTail e (.Slice none none (some (.UnaryOp .USub (.Constant (.int 1) k p1) p2)) p3) v (.ref s4.heap.objs.size)) (EP X pins σ Q) X.xe { s4 with heap := s4.heap.push { cls := .type "slice", data := .fields #[vl, vu, vs] } }
  rcases q1 with ⟨a, xs, rfl, hx, q⟩ | ⟨a, xs, rfl, hx, q⟩ <;> cases r1
  · obtain ⟨its, r, ht, hz⟩ := I5.list hx
    have hlen := r.length
    refine tail_any (ops := [.ref a, .ref s4.heap.objs.size]) ht.isList.typeIs (PySem.slot_list_getitem.lookup) ?_ (by with_unfolding_all rfl)
    refine wpAny_getItem_list_slice ht.isList (Heap.IsSliceOf.new _ vl vu vs) pl pu ps (by decide) ?_ (by rw [List.size_toArray]; omega)
    rw [PySem.W.krv_pick]
    refine ⟨.ref _, _, I5.laid (t' := s4.toks) (o := .lst xs.reverse) (fun b ob q => Heap.get?_push_of_some _ q) (Nat.le_refl _) ?_, rfl, q _ (I5.hok.fresh (Nat.le_refl _))⟩
    exact ⟨by rw [List.length_reverse]; exact hz, _, 0, r.reverse, Heap.get?_push_size _ rfl⟩
  · obtain ⟨its, r, ht, hz⟩ := I5.tuple hx
    have hlen := r.length
    refine tail_any (ops := [.ref a, .ref s4.heap.objs.size]) ht.typeIs (PyProof.Rows.slot_tuple_getitem.lookup) ?_ (by with_unfolding_all rfl)
    refine tuple_back ht (Heap.IsSliceOf.new _ vl vu vs) pl pu ps ?_ (by rw [List.size_toArray]; omega)
    refine ⟨.ref _, _, I5.laid (t' := s4.toks) (o := .tup xs.reverse) (fun b ob q => Heap.get?_push_of_some _ q) (Nat.le_refl _) ?_, rfl, q _ (I5.hok.fresh (Nat.le_refl _))⟩
    exact ⟨by rw [List.length_reverse]; exact hz, _, r.reverse, IsTup.new _ _⟩
def eRevX (ma : M RV) : M RV := fun E => (ma E).bind fun r E1 => match r.d with
  | .lst xs => .ok (.fr (.lst xs.reverse)) E1
  | .tup xs => .ok (.sh (.tup xs.reverse)) E1
  | _ => .stuck
variable {a : Expr} {ma : M RV} {pos : Pos}
theorem me_revX (hK : X.K = C.K) {k : Nat} {p1 p2 p3 : Pos} (ha : PE X a (tE C B W ma)) : PE X (.Subscript a (.Slice none none (some (.UnaryOp .USub (.Constant (.int 1) k p1) p2)) p3) pos) (tE C B W (eRevX ma)) := by
  refine PE.imp (pe_revX ha) fun σ H Q ⟨F, E, S, q⟩ => ?_
  refine tE_go S q fun r E1 v F1 H1 S1 st1 r1 p1 => ?_
  cases hd : r.d with
  | lst xs =>
    rw [hd] at r1 p1
    cases r1 with
    | @lst a vs _ hs hr =>
      refine .inl ⟨a, vs, rfl, SqL.of (S1.fh _ _ hs), fun p hp => ?_⟩
      obtain ⟨g, n⟩ := newL S1.fh hr.reverse hp
      obtain ⟨S2, rr⟩ := S1.newR g n
      exact p1 _ _ _ S2 (st1.trans g.fs) rr
  | tup xs =>
    rw [hd] at r1 p1
    cases r1 with
    | @tup a vs _ hs hr =>
      refine .inr ⟨a, vs, rfl, by rw [hK]; exact SqT_mono S1.fh hs, fun p hp => ?_⟩
      obtain ⟨g, n⟩ := newT S1.fh hr.reverse hp
      obtain ⟨S2, rr⟩ := S1.newR g n
      exact p1 _ _ _ S2 (st1.trans g.fs) rr
  | _ => rw [hd] at p1; exact p1.elim
end
end MM

/-! MM: what is computed, rewritten. -/
namespace MM
open PySem PySem.Spec PyProof.Rows L2
theorem cEq_int (i j : Int) : cEq (.int i) (.int j) = some (i == j) := by
  simp only [cEq, toPy, PyData.eqv]
  rw [if_pos]
  exact ⟨rfl, rfl⟩
end MM
namespace MM
def FO.isOk : FO → Bool
  | .ok _ => true
  | _ => false
/-- the list that it made -/
def FO.list : FO → List D
  | .ok (.fr (.lst xs)) => xs
  | .ok (.sh (.lst xs)) => xs
  | _ => []
def FO.isFrL : FO → Bool
  | .ok (.fr (.lst _)) => true
  | _ => false
def FO.isInt : FO → Bool
  | .ok (.sh (.int _)) => true
  | _ => false
def FO.int : FO → Int
  | .ok (.sh (.int i)) => i
  | _ => 0
def FO.isTrue : FO → Bool
  | .ok (.sh (.bl true)) => true
  | _ => false
end MM

/-! MM: global ints, enumerate of lists and tuples, isinstance of several types, pop(i), comprehensions over an owned list. -/
namespace MM
open PySem PySem.Spec PyProof.Rows L2
open AutoSeq1 (wpAny_loadPart')
section
variable {C : Ctx} {B : Base} {W : WX} {X : Cx} {pos : Pos}
theorem me_gint {x : Str} {i : Int} (hg : Gl X x) (hm : ∃ t, X.mg x = some (.int i t)) (hd : (x == ("__debug__" : Str)) = false := by decide) : PE X (.Name x pos) (tE C B W (eC (.int i))) := by
  obtain ⟨t, hm⟩ := hm
  exact pe_c (pe_glob (v := .int i) hg hm ⟨t, rfl⟩ hd) fun _ => .int i
theorem me_gstr {x z : Str} (hg : Gl X x) (hm : ∃ t, X.mg x = some (.str z t)) (hd : (x == ("__debug__" : Str)) = false := by decide) : PE X (.Name x pos) (tE C B W (eC (.str z))) := by
  obtain ⟨t, hm⟩ := hm
  exact pe_c (pe_glob (v := .str z) hg hm ⟨t, rfl⟩ hd) fun _ => .str z
end
/-! ### two readings of one expression -/
def eAlt (p : Ev → Bool) (m1 m2 : M RV) : M RV := fun E => if p E = true then m1 E else m2 E
section
variable {C : Ctx} {B : Base} {W : WX} {X : Cx}
theorem me_alt {e : Expr} {p : Ev → Bool} {m1 m2 : M RV} (h1 : PE X e (tE C B W m1)) (h2 : PE X e (tE C B W m2)) : PE X e (tE C B W (eAlt p m1 m2)) := by
  refine ⟨fun pins s σ H Q I ⟨F, E, S, q⟩ => ?_⟩
  unfold eAlt at q
  by_cases hp : p E = true
  · rw [if_pos hp] at q
    exact h1.run pins s σ H Q I ⟨F, E, S, q⟩
  · rw [if_neg hp] at q
    exact h2.run pins s σ H Q I ⟨F, E, S, q⟩
def isOwn (i : Nat) (E : Ev) : Bool := (hold E i).isSome
end
/-! ### enumerate of a tuple -/
theorem enum_newT (l : Addr) (items : Array Value) (n : Nat) (dd : Option Addr) (sl : Array (Option Value)) :
    Meets (Builtin.«enumerate.__new__» ⟨[.type "enumerate", .ref l], []⟩) (fun _ R s => s.heap.get? l = some { cls := .type "tuple", dict := dd, data := .seq items n, slots := sl } ∧
      R (.ok (.ret (.ref (s.heap.push { cls := .type "tuple_iterator", data := .fields #[.ref l, .int 0 0] }).objs.size)))
        { s with heap := (s.heap.push { cls := .type "tuple_iterator", data := .fields #[.ref l, .int 0 0] }).push { cls := .type "enumerate", data := .fields #[.none, .bool false, .ref s.heap.objs.size, rawInt 0, .none, .none] } }) :=
  .of_wp fun prog w A R s h => by
    obtain ⟨hp, g, d, tk, os⟩ := s
    obtain ⟨hl, h⟩ := h
    have hsub := sub_enumerate
    have hT : Heap.IsTuple (Shared.heap ⟨hp, g, d, tk, os⟩) l items := ⟨_, hl, rfl, n, rfl⟩
    wp_walk using wpAny_loadPart' hl
    refine wpAny_stack_any fun st => wpAny_pure ?_
    split
    · rename_i c _ _ _ _ _
      cases (c == Value.type "enumerate") <;> (wp_walk using wpAny_loadPart' hl, wpAny_pyIter_tuple hT; exact ⟨_, rfl, h⟩)
    · wp_walk using wpAny_loadPart' hl, wpAny_pyIter_tuple hT
      exact ⟨_, rfl, h⟩
theorem call_enumT {prog : Program} {w : World} {A : Around} {E : Value → Shared → Prop} {s : Shared} {l : Addr} {items : Array Value} {Q : Value → Shared → Prop} (hL : s.heap.IsTuple l items)
    (h : ∀ h', IsEnum h' (s.heap.objs.size + 1) s.heap.objs.size 0 .none → h'.IsTupleIter s.heap.objs.size l 0 → h'.objs.size = s.heap.objs.size + 2 →
      (∀ b o, s.heap.get? b = some o → h'.get? b = some o) → Q (.ref (s.heap.objs.size + 1)) { s with heap := h' }) : wpAny (model prog w) A (call (.type "enumerate") [.ref l]) Q E s := by
  obtain ⟨⟨c, dd, dt, sl⟩, hl, hc, n, hd⟩ := hL
  replace hc : c = .type "tuple" := hc
  replace hd : dt = .seq items n := hd
  subst hc hd
  refine callType_new F.called_enumerate (by decide) (F.typeCall_enumerate_1 _) (F.newCall_enumerate_1 _) (fun obj => F.args_object_init_2 obj _) F.entry_enumerate_new (enum_newT l items n dd sl) ⟨hl, ?_⟩
  have hz : (s.heap.push { cls := .type "tuple_iterator", data := .fields #[.ref l, .int 0 0] }).objs.size = s.heap.objs.size + 1 := Heap.size_push ..
  show _ ∧ _
  rw [hz]
  have he : IsEnum ((s.heap.push { cls := .type "tuple_iterator", data := .fields #[.ref l, .int 0 0] }).push { cls := .type "enumerate", data := .fields #[.none, .bool false, .ref s.heap.objs.size, rawInt 0, .none, .none] }) (s.heap.objs.size + 1) s.heap.objs.size 0 .none := by
    have := Heap.get?_push_size (s.heap.push { cls := .type "tuple_iterator", data := .fields #[.ref l, .int 0 0] }) (o := { cls := .type "enumerate", data := .fields #[.none, .bool false, .ref s.heap.objs.size, rawInt 0, .none, .none] }) rfl
    rw [hz] at this
    exact this
  refine ⟨⟨_, he, rfl⟩, h _ he ⟨_, Heap.get?_push_of_some _ (Heap.get?_push_size _ rfl), rfl, rfl⟩ (by rw [Heap.size_push, hz]) fun b o x => Heap.get?_push_of_some _ (Heap.get?_push_of_some _ x)⟩
/-- the tuple at a, the items with their places in new pairs -/
def IteT (K : PySem.W.Frag) (a : Addr) : It :=
  ⟨fun i H => ∃ (xs : List V) (x : V), SqT K H a xs ∧ xs[i]? = some x, fun i H v H' => ∃ T x, v = .ref T ∧ H T = none ∧ H' = upd H T (.tup [.int (i : Nat), x]) ∧ ∀ xs, SqT K H a xs → xs[i]? = some x, fun i H => ∃ xs : List V, SqT K H a xs ∧ xs.length ≤ i⟩
theorem turn_enumT {P : Program} {w : World} {K : PySem.W.Frag} {elts : List Expr} {kk : Nat} {tpos : Pos} (a e it : Addr) :
    Turn P w K (.Tuple elts kk tpos) (IteT K a) [e, it] e (fun i h => (∃ old, IsEnum h e it ((i : Nat) : Int) old) ∧ h.IsTupleIter it a i ∧ e ≠ it ∧ a ≠ it ∧ a ≠ e) where
  mem := by simp
  obj := fun i h st b hb => by
    obtain ⟨⟨old, he⟩, ⟨o, ho, hc, hd⟩, _⟩ := st
    have e' : b = e ∨ b = it := by simpa using hb
    rcases e' with z | z
    · rw [z]; exact ⟨_, he, fun v q => nomatch q⟩
    · rw [z]; exact ⟨o, ho, fun v q => by rw [hd] at q; cases q⟩
  keep := fun i h h' st k => let ⟨⟨old, he⟩, hi, hne⟩ := st; ⟨⟨old, k e (by simp) _ he⟩, hi.at fun o q => k it (by simp) o q, hne⟩
  item := by
    intro X hP hw hK hc i pins s σ H E I hf st hg
    subst hP hw hK
    obtain ⟨⟨old, he⟩, hit, hne, ha1, ha2⟩ := st
    obtain ⟨xs, x, hq, hx⟩ := hg
    obtain ⟨its, rv, p, hz⟩ := I.tuple hq
    obtain ⟨u, hu, ru⟩ := rv.get hx
    have hel : e < s.heap.objs.size := Heap.lt_size he
    have hil : it < s.heap.objs.size := by obtain ⟨_, q, _⟩ := hit; exact Heap.lt_size q
    have hi : i < its.toArray.size := by
      have := (List.getElem?_eq_some_iff.mp hu).1
      simpa using this
    have p' : s.heap.IsTuple a its.toArray := p
    refine wpAny_pyNext_enum_itemD (PySem.Draws.tuple (A := X.A.in1) (I.ok.hd hc) it a ha1 its.toArray) he ⟨hit, p'⟩ hi hne (by simp; exact ⟨hne, fun z => ha2 z.symm⟩) fun y h' tk hy ho ⟨hit', _⟩ hT hsz hk => ?_
    have hy : u = y := by
      have : its[i]? = some y := by simpa using hy
      rw [hu] at this
      exact Option.some.inj this
    subst hy
    refine ⟨_, rfl, wpAny_letOwnedTupleGo_enum (s := { s with heap := h', toks := tk + 1 }) ho fun h'' he' sb => ?_⟩
    have hT2 : h''.get? s.heap.objs.size = some { cls := .type "tuple", data := .seq #[.int i tk, u] } := (sb.2 _ (Nat.ne_of_gt hel)).trans hT
    have new : ObjOk X.prog X.w (upd H s.heap.objs.size (.tup [.int (i : Nat), x])) h'' s.heap.objs.size (.tup [.int (i : Nat), x]) :=
      ⟨by show 2 ≤ sizeLine; decide, [.int i tk, u], .cons ⟨_, rfl⟩ (.cons ru .nil), ⟨_, hT2, rfl, _, rfl⟩⟩
    have I1 : Inv X pins σ (upd H s.heap.objs.size (.tup [.int (i : Nat), x])) { s with heap := h'', toks := tk + 1 } :=
      I.turnedNew (ch := [e, it]) (fun b ob hb q => (sb.2 b (fun z => hb (by simp [z]))).trans (hk b ob (fun z => hb (by simp [z])) (fun z => hb (by simp [z])) q)) hf (Nat.le_refl _) new
    refine ⟨.ref s.heap.objs.size, _, I1, rfl, ⟨_, x, rfl, I.hok.fresh (Nat.le_refl _), rfl, fun ys hy => by rw [I.tuple_inj hy hq]; exact hx⟩, ⟨⟨u, ?_⟩, hit'.at fun o q => (sb.2 it (Ne.symm hne)).trans q, hne, ha1, ha2⟩, fun b hb => ?_⟩
    · have e1 : ((i + 1 : Nat) : Int) = (i : Int) + 1 := by omega
      rw [e1]; exact he'
    · have hb' : b < s.heap.objs.size := by
        have e' : b = e ∨ b = it := by simpa using hb
        rcases e' with z | z
        · rw [z]; exact hel
        · rw [z]; exact hil
      rw [upd_ne (Nat.ne_of_lt hb')]
      exact (hf b hb).1
  done := by
    intro X hP hw hK hc i pins s σ H E I hf st hg
    subst hP hw hK
    obtain ⟨⟨old, he⟩, hit, hne, ha1, ha2⟩ := st
    obtain ⟨xs, hq, hx⟩ := hg
    obtain ⟨its, rv, p, hz⟩ := I.tuple hq
    obtain ⟨f0, f1, f2, f3, f4, f5⟩ := hf it (by simp)
    have hl := rv.length
    have p' : s.heap.IsTuple a its.toArray := p
    have hT : s.TypeIs (.ref e) "enumerate" := ⟨_, he, rfl⟩
    unfold pyNext
    refine wpAny_bind (wpAny_attempt (wpAny_callSpecial?_slot (name := Str.ofString "__next__") hT F.slot_enumerate_next (wpAny_call_entry F.slot_enumerate_next hT F.entry_enumerate_next ?_ (F.args_enumerate_next_1 _))))
    show wpAny _ _ (field (.ref e) 2 >>= _) _ _ _
    refine wpAny_bind (wpAny_field he rfl (x := .ref it) rfl ?_)
    refine wpAny_bind (wpAny_nextOf_tuple_end (I.ok.hd hc) hit p' (by simp; omega) fun h' x he' hx' => ?_)
    obtain ⟨o, ho, hc⟩ := hx'
    refine wpAny_bind (wpAny_isInstance (T := "StopIteration") (b := true) ⟨o, ho, hc⟩ isSubtype_stop ?_)
    exact wpAny_pure ⟨rfl, I.turned (t' := s.toks) (fun b o hb q => he' b o hb q) f0 f1 f3 f4 f5⟩
  self := fun A i s Q E st h => let ⟨⟨_, he⟩, _⟩ := st; wpAny_pyIter_enum he h
def iEnumA (K : PySem.W.Frag) (ta : TA) : TI := fun σ H R => ta σ H fun vs H1 => ∃ a xs, vs = [.ref a] ∧ ((SqL K H1 a xs ∧ R (Ite K a) H1) ∨ (SqT K H1 a xs ∧ R (IteT K a) H1))
theorem pi_enumA {X : Cx} {e : Expr} {ta : TA} {p pos tpos : Pos} {elts : List Expr} {kk : Nat} (hg : Gl X "enumerate") (hm : X.mg "enumerate" = none) (ha : PA X [e] ta) (hs : starEach [e] X.env = [(false, eval e X.env)] := by rfl) :
    PI X (.Tuple elts kk tpos) (.Call (.Name "enumerate" p) [e] [] pos) (iEnumA X.K ta) := by
  refine ⟨fun pins s σ H R I h => ?_⟩
  refine Call_ (ld_blt I hg hm boot_enumerate (PyProof.Rows.callWith_type1 (thn (ha.run pos pins s σ H _ I h) fun us s1 ⟨vs, H1, I1, r1, q1⟩ => ?_) hs rfl))
  obtain ⟨a, xs, ex, ⟨hq, q⟩ | ⟨hq, q⟩⟩ := q1
  · subst ex
    cases r1 with
    | cons r rr =>
      cases rr
      cases r
      obtain ⟨its, rv, p', hz⟩ := I1.list hq
      refine call_enumerate_list p'.isList fun h' he hit hsz hk => wpAny_pyIter_enum he ?_
      have I2 : Inv X pins σ H1 { s1 with heap := h' } := I1.kept (t' := s1.toks) hk
      refine ⟨s1.heap.objs.size + 1, [s1.heap.objs.size + 1, s1.heap.objs.size], _, _, H1, rfl, I2, turn_enum a (s1.heap.objs.size + 1) s1.heap.objs.size, ⟨⟨.none, he⟩, hit, Nat.succ_ne_self _⟩, fun b hb => ?_, q⟩
      have hle : s1.heap.objs.size ≤ b := by
        have e' : b = s1.heap.objs.size + 1 ∨ b = s1.heap.objs.size := by simpa using hb
        rcases e' with z | z
        · rw [z]; exact Nat.le_add_right _ _
        · rw [z]; exact Nat.le_refl _
      exact I1.fpOk hle (I1.hok.fresh hle)
  · subst ex
    cases r1 with
    | cons r rr =>
      cases rr
      cases r
      obtain ⟨its, rv, p', hz⟩ := I1.tuple hq
      have hlt : a < s1.heap.objs.size := by obtain ⟨_, q, _⟩ := p'; exact Heap.lt_size q
      refine call_enumT (show s1.heap.IsTuple a its.toArray from p') fun h' he hit hsz hk => wpAny_pyIter_enum he ?_
      have I2 : Inv X pins σ H1 { s1 with heap := h' } := I1.kept (t' := s1.toks) hk
      refine ⟨s1.heap.objs.size + 1, [s1.heap.objs.size + 1, s1.heap.objs.size], _, _, H1, rfl, I2, turn_enumT a (s1.heap.objs.size + 1) s1.heap.objs.size, ⟨⟨.none, he⟩, hit, Nat.succ_ne_self _, Nat.ne_of_lt hlt, Nat.ne_of_lt (Nat.lt_succ_of_lt hlt)⟩, fun b hb => ?_, q⟩
      have hle : s1.heap.objs.size ≤ b := by
        have e' : b = s1.heap.objs.size + 1 ∨ b = s1.heap.objs.size := by simpa using hb
        rcases e' with z | z
        · rw [z]; exact Nat.le_add_right _ _
        · rw [z]; exact Nat.le_refl _
      exact I1.fpOk hle (I1.hok.fresh hle)
def enumL (xs : List D) : List D := xs.zipIdx.map fun p => .tup [.int (p.2 : Nat), p.1]
def enumD (ds : List D) : Option (List D) := match ds with
  | [.lst xs] => some (enumL xs)
  | [.tup xs] => some (enumL xs)
  | _ => none
theorem enum_at {xs : List D} {i : Nat} {d : D} (h : (enumL xs)[i]? = some d) : ∃ x, xs[i]? = some x ∧ d = .tup [.int (i : Nat), x] := by
  unfold enumL at h
  rw [List.getElem?_map, List.getElem?_zipIdx] at h
  obtain ⟨p, e, rfl⟩ := Option.map_eq_some_iff.mp h
  obtain ⟨x, e2, rfl⟩ := Option.map_eq_some_iff.mp e
  exact ⟨x, e2, by simp⟩
theorem enum_len (xs : List D) : (enumL xs).length = xs.length := by
  unfold enumL
  rw [List.length_map, List.length_zipIdx]
section
variable {C : Ctx} {B : Base} {W : WX} {X : Cx} {pos p tpos : Pos}
theorem gives_enumP {P : Hp} {a : Addr} {vs : List V} {ds : List D} {F : Hp} (h : ∀ F' H', Same F F' → Same F' H' → Same P H' → SqL C.K H' a vs) (r : RepL C F vs ds) : GivesP C P (Ite C.K a) (enumL ds) F := fun F' H' s1 s2 s3 => by
  have hH := h F' H' s1 s2 s3
  refine ⟨fun i d e => ?_, ⟨vs, hH, by rw [enum_len, r.length]; exact Nat.le_refl _⟩⟩
  obtain ⟨x, e1, rfl⟩ := enum_at e
  obtain ⟨v, f1, r1⟩ := r.get e1
  refine ⟨⟨vs, v, hH, f1⟩, fun z H'' q => ?_⟩
  obtain ⟨T, x', rfl, hT, rfl, q1⟩ := q
  have z1 := q1 vs hH
  rw [f1] at z1; cases z1
  exact yld_pair s2 hT (.int _) (r1.mono s1)
theorem gives_listP {P : Hp} {a : Addr} {vs : List V} {ds : List D} {F : Hp} (h : ∀ F' H', Same F F' → Same F' H' → Same P H' → SqL C.K H' a vs) (r : RepL C F vs ds) : GivesP C P (Itl C.K a) ds F := fun F' H' s1 s2 s3 => by
  have hH := h F' H' s1 s2 s3
  refine ⟨fun i d e => ?_, ⟨vs, hH, by rw [r.length]; exact Nat.le_refl _⟩⟩
  obtain ⟨v, e1, r1⟩ := r.get e
  refine ⟨⟨vs, v, hH, e1⟩, fun x H'' y => ?_⟩
  obtain ⟨rfl, y2⟩ := y
  have e2 := y2 vs hH
  rw [e1] at e2; cases e2
  exact ⟨F', Grow.refl s2, r1.mono s1⟩
theorem gives_enumT {a : Addr} {vs : List V} {ds : List D} {F : Hp} (h : SqT C.K F a vs) (r : RepL C F vs ds) : Gives C (IteT C.K a) (enumL ds) F := fun F' H' s1 s2 => by
  have hH : SqT C.K H' a vs := SqT_mono s2 (SqT_mono s1 h)
  refine ⟨fun i d e => ?_, ⟨vs, hH, by rw [enum_len, r.length]; exact Nat.le_refl _⟩⟩
  obtain ⟨x, e1, rfl⟩ := enum_at e
  obtain ⟨v, f1, r1⟩ := r.get e1
  refine ⟨⟨vs, v, hH, f1⟩, fun z H'' q => ?_⟩
  obtain ⟨T, x', rfl, hT, rfl, q1⟩ := q
  have z1 := q1 vs hH
  rw [f1] at z1; cases z1
  exact yld_pair s2 hT (.int _) (r1.mono s1)
theorem mi_enum {mr : M (List D)} {e : Expr} {elts : List Expr} {kk : Nat} (hK : X.K = C.K) (hg : Gl X "enumerate") (hm : X.mg "enumerate" = none) (ha : PA X [e] (tA C B W mr)) (hs : starEach [e] X.env = [(false, eval e X.env)] := by rfl) :
    PI X (.Tuple elts kk tpos) (.Call (.Name "enumerate" p) [e] [] pos) (tI C B W (iN enumD mr)) := by
  refine PI.imp (pi_enumA hg hm ha hs) fun σ H R ⟨F, E, S, q⟩ => ?_
  refine tA_go S q fun ds E1 vs F1 H1 S1 st1 r1 p1 => ?_
  cases hf : enumD ds with
  | none => rw [hf] at p1; exact p1.elim
  | some xs =>
    rw [hf] at p1
    unfold enumD at hf
    split at hf
    · cases hf
      cases r1 with
      | cons r rr =>
        cases rr
        cases r with
        | @lst a vs _ hs hr =>
          rw [hK]
          exact ⟨a, vs, rfl, .inl ⟨SqL.of (S1.fh _ _ hs), p1 _ F1 H1 S1 st1 (gives_enumP (fun F' H' s1 s2 _ => SqL.of (s2 _ _ (s1 _ _ hs))) hr)⟩⟩
    · cases hf
      cases r1 with
      | cons r rr =>
        cases rr
        cases r with
        | @tup a vs _ hs hr =>
          rw [hK]
          exact ⟨a, vs, rfl, .inr ⟨SqT_mono S1.fh hs, p1 _ F1 H1 S1 st1 (Gives.p (gives_enumT hs hr))⟩⟩
    · cases hf
/-! ### isinstance(x, (A, B)) -/
def rIsiX (K : PySem.W.Frag) : List V → Hp → VK → Prop := fun xs H Q => ∃ (x : V) (tp : Addr) (cs : List V) (t : Value) (us : List Value) (b : Bool), xs = [x, .ref tp] ∧ SqT K H tp cs ∧ Paired ClsV cs us ∧ TyX K H x t ∧ PySem.W.kitAny K t us = some b ∧ Q (.bl b) H
theorem call_isiX : CallR X (.builtin "isinstance") (rIsiX X.K) := by
  intro pins s σ H xs us Q I r h
  obtain ⟨x, tp, cs, t, ws, b, rfl, hT, k, ty, e, q⟩ := h
  obtain ⟨u1, u2, rfl, r1, r2⟩ := vals2 r
  cases (show u2 = Value.ref tp from r2)
  obtain ⟨P, Z, p, hx⟩ := kit_of I r1 ty
  obtain ⟨its, rv, ⟨⟨oc, od, dt, sl⟩, h1, h2, n, h3⟩, hz⟩ := I.tuple hT
  have e3 := ClsV.all k rv
  subst e3
  simp only at h2 h3
  subst h2 h3
  exact PySem.W.kia_tup Z I.kIn p h1 e hx fun tk => ⟨.bl b, H, I.tok tk, rfl, q⟩
def tysD : List D → Option (List Ty)
  | [] => some []
  | .ty t :: r => (tysD r).map (t :: ·)
  | _ => none
def isiAny (d : D) : List Ty → Option Bool
  | [] => some false
  | t :: ts => match isiD d t with
    | some true => some true
    | some false => isiAny d ts
    | none => none
def fIsiT (ds : List D) : Option RV := match ds with
  | [d, .tup ts] => (tysD ts).bind fun l => if l.isEmpty = true then none else (isiAny d l).map fun b => .sh (.bl b)
  | _ => none
theorem tys_of {F : Hp} : ∀ {vs : List V} {ds : List D} {l : List Ty}, RepL C F vs ds → tysD ds = some l → Paired ClsV vs (l.map fun t => Value.type t.name)
  | _, _, _, .nil, h => by cases h; exact .nil
  | _, _, _, .cons r rr, h => by
    unfold tysD at h
    split at h
    · rename_i e; cases e
    · rename_i t rest e
      cases e
      obtain ⟨l, e1, rfl⟩ := Option.map_eq_some_iff.mp h
      cases r
      exact .cons (.ty _) (tys_of rr e1)
    · cases h
theorem any_of {F H : Hp} {x : V} {d : D} {u : Value} (hu : ∀ t b, isiD d t = some b → PySem.W.kitOne C.K u (.type t.name) = some b) : ∀ {l : List Ty} {b : Bool}, isiAny d l = some b → PySem.W.kitAny C.K u (l.map fun t => Value.type t.name) = some b
  | [], b, h => by cases h; rfl
  | t :: ts, b, h => by
    unfold isiAny at h
    split at h
    · rename_i e
      cases h
      exact kitAny_cons (hu t true e) (fun q => nomatch q) fun _ => rfl
    · rename_i e
      exact kitAny_cons (hu t false e) (fun _ => any_of (F := F) (H := H) (x := x) hu h) (fun q => nomatch q)
    · cases h
theorem isi_one {F H : Hp} {x : V} {d : D} {t0 : Ty} {b0 : Bool} (st : Same F H) (r : Rep C F x d) (h0 : isiD d t0 = some b0) : ∃ u, TyX C.K H x u ∧ ∀ t b, isiD d t = some b → PySem.W.kitOne C.K u (.type t.name) = some b := by
  cases r with
  | non => exact ⟨_, .base .non, fun t b h => by cases h; exact kit_non t⟩
  | bl k => exact ⟨_, .base (.bl k), fun t b h => by cases h; exact kit_bool t⟩
  | int k => exact ⟨_, .base (.int k), fun t b h => by cases h; exact kit_int t⟩
  | str k => exact ⟨_, .base (.str k), fun t b h => by cases h; exact kit_str t⟩
  | tup hs hr =>
    rcases hs with (hs | ⟨o, hs⟩) | ⟨o, its, n, hk, hc, _⟩
    · exact ⟨_, .base (.tup (st _ _ hs)), fun t b h => by cases h; exact kit_tup t⟩
    · exact ⟨_, .fTuple (st _ _ hs), fun t b h => by cases h; exact kit_tup t⟩
    · exact ⟨_, .kTuple hk hc, fun t b h => by cases h; exact kit_tup t⟩
  | lst hs hr => exact ⟨_, .base (.lst (st _ _ hs)), fun t b h => by cases h; exact kit_lst t⟩
  | dicK hs hr => exact ⟨_, .base (.dK (st _ _ hs)), fun t b h => by cases h; exact kit_dic t⟩
  | dicT hs hr => exact ⟨_, .base (.dT (st _ _ hs)), fun t b h => by cases h; exact kit_dic t⟩
  | _ => cases h0
theorem n_isiT (hK : X.K = C.K) : PureN C (rIsiX X.K) fIsiT := by
  intro F H xs ds R Q st r e q
  unfold fIsiT at e
  split at e
  · rename_i d ts
    obtain ⟨l, e1, e2⟩ := Option.bind_eq_some_iff.mp e
    cases l with
    | nil => cases e2
    | cons t l =>
      obtain ⟨b, e3, rfl⟩ := Option.map_eq_some_iff.mp e2
      cases r with
      | cons r rr => cases rr with
        | cons r2 rr =>
          cases rr
          cases r2 with
          | @tup a vs _ hs hr =>
            have h0 : ∃ b0, isiD d t = some b0 := by
              unfold isiAny at e3
              split at e3
              · exact ⟨_, by assumption⟩
              · exact ⟨_, by assumption⟩
              · cases e3
            obtain ⟨b0, h0⟩ := h0
            obtain ⟨u, h1, h2⟩ := isi_one st r h0
            exact ⟨_, a, vs, u, _, b, rfl, by rw [hK]; exact SqT_mono st hs, tys_of hr e1, by rw [hK]; exact h1, by rw [hK]; exact any_of (F := F) (H := H) (x := .non) h2 e3, NewR.same st (.bl _) q⟩
  · cases e
/-- isinstance, one type or several -/
def fIsiA (ds : List D) : Option RV := match ds with
  | [_, .tup _] => fIsiT ds
  | _ => fIsi ds
theorem call_isiA : CallR X (.builtin "isinstance") (fun xs H Q => rIsi X.K xs H Q ∨ rIsiX X.K xs H Q) := call_isi.or call_isiX
theorem n_isiA (hK : X.K = C.K) : PureN C (fun xs H Q => rIsi X.K xs H Q ∨ rIsiX X.K xs H Q) fIsiA := by
  intro F H xs ds R Q st r e q
  unfold fIsiA at e
  split at e
  · exact .inr (n_isiT hK F H xs _ R Q st r e q)
  · exact .inl (n_isi hK F H xs _ R Q st r e q)
/-! ### xs.pop(i) -/
def fPopA (d : D) (ds : List D) : Option (D × D) := match d, ds with
  | .lst xs, [.int i] => if -(2 ^ 63) ≤ i ∧ i < 2 ^ 63 then (seqIndex? i xs.length).bind fun k => (xs[k]?).map fun y => (.lst (xs.eraseIdx k), y) else none
  | _, _ => none
theorem RepL.erase {F : Hp} : ∀ {vs : List V} {ds : List D}, RepL C F vs ds → ∀ k, RepL C F (vs.eraseIdx k) (ds.eraseIdx k)
  | _, _, .nil, k => .nil
  | _, _, .cons r rr, 0 => rr
  | _, _, .cons r rr, k + 1 => .cons r (RepL.erase rr k)
theorem own_popAt : OwnR C rPopAt fPopA := by
  intro F H a d vs ds d' rd Q st o r e q
  unfold fPopA at e
  split at e
  · rename_i xs i
    split at e
    · rename_i hb
      obtain ⟨k, e1, e2⟩ := Option.bind_eq_some_iff.mp e
      obtain ⟨y, e3, e4⟩ := Option.map_eq_some_iff.mp e2
      cases e4
      obtain ⟨nF, ws, hH, rl⟩ := o
      cases r with
      | cons r rr =>
        cases rr
        cases r
        obtain ⟨v, h1, h2⟩ := rl.get e3
        exact ⟨a, ws, i, k, v, rfl, rfl, hH, hb.1, hb.2, by rw [rl.length]; exact e1, h1, q _ F _ (grow_upd st nF) ⟨nF, _, upd_same, RepL.erase rl k⟩ h2⟩
    · cases e
  · cases e
/-! ### a comprehension over a list that a slot owns -/
def eLcO (i : Nat) (f : List D → Option (List D)) (g : Tgt) (mt : M Bool) (me : M RV) (vs : List Nat) : M RV := fun E => match E[i]? with
  | some (.ow (.lst xs)) => (match f xs with
    | some ds => ((lcL g mt me vs ds (wipeE (E.set i .un) vs) []).bind fun acc E2 => .ok (.fr (.lst acc)) ((restE (E.set i .un) vs E2).set i (.ow (.lst xs))))
    | none => .stuck)
  | _ => .stuck
/-- what walks it -/
def tiO (K : PySem.W.Frag) (J : Addr → It) (i : Nat) : TI := fun σ H R => ∃ a vs, σ[i]? = some (some (.ref a)) ∧ SqL K H a vs ∧ R (J a) H
theorem lcO_go {i : Nat} {f : List D → Option (List D)} {J : Addr → It} (hJ : ∀ (P : Hp) (a : Addr) (vs : List V) (xs ds : List D) (F : Hp), f xs = some ds → (∀ F' H', Same F F' → Same F' H' → Same P H' → SqL C.K H' a vs) → RepL C F vs xs → GivesP C P (J a) ds F)
    {σ : St} {H : Hp} {Q : VK} {g : Tgt} {js : List Nat} {mt : M Bool} {me : M RV} {vs : List Nat} (hjs : ∀ j ∈ js, j ∈ vs) (t : tE C B W (eLcO i f g mt me vs) σ H Q) :
    tLc (tiO C.K J i) (fun v σ H Q => ∃ B, tG C B js g v σ H Q) (fun σ H Q => ∃ B, tT C B WNo mt σ H Q) (fun σ H Q => ∃ B, tE C B WNo me σ H Q) vs σ H Q := by
  obtain ⟨F, E, S, p⟩ := t
  unfold eLcO at p
  split at p
  · rename_i xs hE
    cases hf : f xs with
    | none => rw [hf] at p; exact p.elim
    | some ds =>
      rw [hf] at p
      dsimp only at p
      obtain ⟨a, h1, ⟨nF, ws, hH, rl⟩, h0⟩ := S.sl i _ hE
      have npa : B.pin a = none := by
        cases z : B.pin a with
        | none => rfl
        | some w => exact absurd h1 ((S.pn a w z).2.2 i _ hE rfl)
      have apa : Apart (E.set i .un) σ a := fun j s e os z => by
        by_cases hj : j = i
        · subst hj
          rw [List.getElem?_set] at e
          split at e
          · split at e
            · cases e; cases os
            · cases e
          · rename_i hh; exact absurd rfl hh
        · rw [List.getElem?_set_ne (Ne.symm hj)] at e
          exact hj (S.sep j i s _ a e hE os rfl z h1)
      have S1 : Sim C (B.pinned a (.lst ws)) F H (E.set i .un) σ := (S.unset i).topin hH nF apa
      have hσ : σ.set i (some (.ref a)) = σ := by
        refine List.ext_getElem? fun j => ?_
        rw [List.getElem?_set]
        split
        · rename_i hij
          subst hij
          rw [if_pos (List.getElem?_eq_some_iff.mp h1).1, h1]
        · rfl
      have key := lc_in (C := C) (B := B.pinned a (.lst ws)) (W := W) (mi := fun E => .ok ds E) (g := g) (js := js) (mt := mt) (me := me) (vs := vs) (σ := σ) (H := H) (Q := Q) hjs S1 ?_
      · refine ⟨a, ws, h1, SqL.of hH, key (J a) F H S1 (Same.refl F) (hJ _ a ws xs ds F hf (fun F' H' _ _ s3 => SqL.of (s3 a _ ?_)) rl)⟩
        exact upd_same
      · show Post C (B.pinned a (.lst ws)) W F σ (kE C (B.pinned a (.lst ws)) F σ Q) ((lcL g mt me vs ds (wipeE (E.set i .un) vs) []).bind fun acc E2 => .ok (.fr (.lst acc)) (restE (E.set i .un) vs E2))
        cases hl : lcL g mt me vs ds (wipeE (E.set i .un) vs) [] with
        | stuck => rw [hl] at p; exact p.elim
        | ex x E2 => exact absurd hl (lcL_noex _ _ _ _ _)
        | ok acc E2 =>
          rw [hl] at p
          intro v F' H' S2 st2 rr
          obtain ⟨S3, hH', hF', hap⟩ := S2.unpin npa
          have S4 : Sim C B F' H' ((restE (E.set i .un) vs E2).set i (.ow (.lst xs))) σ := by
            have := S3.setOw i (a := a) (d := .lst xs) ⟨hF', ws, hH', rl.mono st2⟩ h0 hap npa
            rw [hσ] at this
            exact this
          obtain ⟨b, rfl, o, n, ap, pn⟩ := rr
          have nb : b ≠ a := fun z => by
            subst z
            have pn : L2.upd B.pin b (.lst ws) b = none := pn
            rw [upd_same] at pn
            cases pn
          have pn' : B.pin b = none := by
            have pn : L2.upd B.pin a (.lst ws) b = none := pn
            rw [upd_ne nb] at pn
            exact pn
          refine p (.ref b) F' H' S4 st2 ⟨b, rfl, o, n, fun j s e os z => ?_, pn'⟩
          rw [List.getElem?_set] at e
          split at e
          · rename_i hij
            subst hij
            rw [h1] at z
            cases z
            exact nb rfl
          · exact ap j s e os z
  · exact p.elim
theorem pi_varO {i : Nat} {x : Str} {tg : Expr} {p : Pos} (hK : X.K = C.K) (hN : X.N[i]? = some x := by rfl) (hv : Vis X.env.scope x := by first | exact Or.inl rfl | exact Or.inr (Or.inl rfl) | exact Or.inr (Or.inr rfl)) (hd : (x == ("__debug__" : Str)) = false := by decide)
    (hcd : (x == ("__classdict__" : Str)) = false := by decide) : PI X tg (.Name x p) (tiO C.K (Itl C.K) i) := by
  refine PI.imp (pi_seq (pe_var (i := i) hN hv hd hcd)) fun σ H R ⟨a, vs, h1, h2, h3⟩ => ?_
  rw [hK]
  exact ⟨.ref a, h1, a, rfl, .inl ⟨⟨vs, h2⟩, h3⟩⟩
theorem pi_enumO {i : Nat} {x : Str} {p pn tpos : Pos} {elts : List Expr} {kk : Nat} (hK : X.K = C.K) (hg : Gl X "enumerate") (hm : X.mg "enumerate" = none) (hN : X.N[i]? = some x := by rfl) (hv : Vis X.env.scope x := by first | exact Or.inl rfl | exact Or.inr (Or.inl rfl) | exact Or.inr (Or.inr rfl)) (hd : (x == ("__debug__" : Str)) = false := by decide)
    (hcd : (x == ("__classdict__" : Str)) = false := by decide) (hs : starEach [.Name x pn] X.env = [(false, eval (.Name x pn) X.env)] := by rfl) : PI X (.Tuple elts kk tpos) (.Call (.Name "enumerate" p) [.Name x pn] [] pos) (tiO C.K (Ite C.K) i) := by
  refine PI.imp (pi_enumA hg hm (pa_cons (pe_var (i := i) hN hv hd hcd) pa_nil hs) hs) fun σ H R ⟨a, vs, h1, h2, h3⟩ => ?_
  rw [hK]
  exact ⟨.ref a, h1, a, vs, rfl, .inl ⟨h2, h3⟩⟩
def enumO (xs : List D) : Option (List D) := some (enumL xs)
theorem goO_list {C : Ctx} : ∀ (P : Hp) (a : Addr) (vs : List V) (xs ds : List D) (F : Hp), some xs = some ds → (∀ F' H', Same F F' → Same F' H' → Same P H' → SqL C.K H' a vs) → RepL C F vs xs → GivesP C P (Itl C.K a) ds F := fun P a vs xs ds F e h r => by
  cases e
  exact gives_listP h r
theorem goO_enum {C : Ctx} : ∀ (P : Hp) (a : Addr) (vs : List V) (xs ds : List D) (F : Hp), enumO xs = some ds → (∀ F' H', Same F F' → Same F' H' → Same P H' → SqL C.K H' a vs) → RepL C F vs xs → GivesP C P (Ite C.K a) ds F := fun P a vs xs ds F e h r => by
  cases e
  exact gives_enumP h r
theorem me_lcO {i : Nat} {f : List D → Option (List D)} {J : Addr → It} (hJ : ∀ (P : Hp) (a : Addr) (vs : List V) (xs ds : List D) (F : Hp), f xs = some ds → (∀ F' H', Same F F' → Same F' H' → Same P H' → SqL C.K H' a vs) → RepL C F vs xs → GivesP C P (J a) ds F)
    {elt tg iter : Expr} {ifs : List Expr} {scope : Scope} (own : List (Str × Nat)) {g : Tgt} {js : List Nat} {mt : M Bool} {me : M RV} (hc : X.calm = true) (hN : X.N.Nodup) (hi : PI X tg iter (tiO C.K J i)) (ok : BlkOk X.N X.env.scope scope own)
    (hg : ∀ (s : Shared) (H : Hp) (c : Addr) (cl : List (Str × Addr)) (fp : List Addr) (B : Base), PG (X.blk s H scope (compEnvC scope cl c X.env) fp) tg (tG C B js g)) (ht : ∀ (s : Shared) (H : Hp) (c : Addr) (cl : List (Str × Addr)) (fp : List Addr) (B : Base), PTs (X.blk s H scope (compEnvC scope cl c X.env) fp) ifs (tT C B WNo mt))
    (he : ∀ (s : Shared) (H : Hp) (c : Addr) (cl : List (Str × Addr)) (fp : List Addr) (B : Base), PE (X.blk s H scope (compEnvC scope cl c X.env) fp) elt (tE C B WNo me)) (hjs : ∀ j ∈ js, j ∈ own.map (·.2) := by decide) (hs : ∀ x, foldedSetIterable iter X.env x = pure x := by intro _; rfl) :
    PE X (.ListComp elt [⟨tg, iter, ifs, 0⟩] scope pos) (tE C B W (eLcO i f g mt me (own.map (·.2)))) :=
  PE.imp (pe_lc hc hN hi ok (fun s H c cl fp => PG.ex (hg s H c cl fp)) (fun s H c cl fp => PTs.ex (ht s H c cl fp)) (fun s H c cl fp => PE.ex (he s H c cl fp)) hs) fun σ H Q t => lcO_go hJ hjs t
theorem ms_setLcO {i : Nat} {f : List D → Option (List D)} {J : Addr → It} (hJ : ∀ (P : Hp) (a : Addr) (vs : List V) (xs ds : List D) (F : Hp), f xs = some ds → (∀ F' H', Same F F' → Same F' H' → Same P H' → SqL C.K H' a vs) → RepL C F vs xs → GivesP C P (J a) ds F)
    {k : Nat} {y : Str} {py spos : Pos} {elt tg iter : Expr} {ifs : List Expr} {scope : Scope} (own : List (Str × Nat)) {g : Tgt} {js : List Nat} {mt : M Bool} {me : M RV} (hc : X.calm = true) (hN : X.N.Nodup) (hy : X.N[k]? = some y) (hyl : X.env.scope.names.lookup y = some .local)
    (hsw : swapsWith (.ListComp elt [⟨tg, iter, ifs, 0⟩] scope pos) (some (.Name y py)) spos.line X.env = pure true) (hi : PI X tg iter (tiO C.K J i)) (ok : BlkOk X.N X.env.scope scope own)
    (hg : ∀ (s : Shared) (H : Hp) (c : Addr) (cl : List (Str × Addr)) (fp : List Addr) (B : Base), PG (X.blk s H scope (compEnvC scope cl c X.env) fp) tg (tG C B js g)) (ht : ∀ (s : Shared) (H : Hp) (c : Addr) (cl : List (Str × Addr)) (fp : List Addr) (B : Base), PTs (X.blk s H scope (compEnvC scope cl c X.env) fp) ifs (tT C B WNo mt))
    (he : ∀ (s : Shared) (H : Hp) (c : Addr) (cl : List (Str × Addr)) (fp : List Addr) (B : Base), PE (X.blk s H scope (compEnvC scope cl c X.env) fp) elt (tE C B WNo me)) (hjs : ∀ j ∈ js, j ∈ own.map (·.2) := by decide) (hs : ∀ x, foldedSetIterable iter X.env x = pure x := by intro _; rfl) :
    PS X (.Assign [.Name y py] (.ListComp elt [⟨tg, iter, ifs, 0⟩] scope pos) spos) (tS C B W (sAsg k (eLcO i f g mt me (own.map (·.2))))) := by
  refine PS.imp (ps_setLc hc hN hy hyl hsw hi ok (fun s H c cl fp => PG.ex (hg s H c cl fp)) (fun s H c cl fp => PTs.ex (ht s H c cl fp)) (fun s H c cl fp => PE.ex (he s H c cl fp)) hs) fun D σ H ⟨F, E, S, p⟩ => ?_
  refine lcO_go hJ hjs (Q := fun x H1 => gName k x σ H1 D.nx) (B := B) (W := W) ?_
  refine sE_go S p fun r E1 v F1 H1 S1 st1 rr p1 => ?_
  have q := setR k S1 rr
  cases r with
  | sh d => exact p1 _ F1 H1 q st1
  | fr d => exact p1 _ F1 H1 q st1
end
end MM

/-! MM: a def without its slots: what it computes as a function of data alone (the mirror), and the rules that show it. -/
namespace MM
open PySem PySem.Spec PyProof.Rows L2
inductive Res (α : Type) where
  | ok (a : α) | ex (x : Xc) | stuck
def Res.bind {α β : Type} (r : Res α) (f : α → Res β) : Res β := match r with
  | .ok a => f a
  | .ex x => .ex x
  | .stuck => .stuck
theorem Res.ok_bind {α β : Type} (a : α) (f : α → Res β) : (Res.ok a).bind f = f a := rfl
theorem Res.ex_bind {α β : Type} (x : Xc) (f : α → Res β) : (Res.ex x : Res α).bind f = .ex x := rfl
theorem Res.stuck_bind {α β : Type} (f : α → Res β) : (Res.stuck : Res α).bind f = .stuck := rfl
theorem Res.bind_assoc {α β γ : Type} (r : Res α) (f : α → Res β) (g : β → Res γ) : (r.bind f).bind g = r.bind fun a => (f a).bind g := by cases r <;> rfl
/-- what may be changed where it stands -/
def isMut : D → Bool
  | .lst _ => true
  | .dic _ => true
  | .obj _ _ => true
  | _ => false
/-! ### what is known of the slots -/
inductive SA where
  | any | val (d : D) | sh (d : D) | own (d : D) | bo (d : D)
def SA.ok : SA → Sl → Prop
  | .any, _ => True
  | .val d, s => s = .sh d ∨ (s = .ow d ∧ isMut d = true)
  | .sh d, s => s = .sh d
  | .own d, s => (s = .ow d ∧ isMut d = true) ∨ (s = .sh d ∧ isMut d = false)
  | .bo d, s => s = .bo d
inductive EA : List SA → Ev → Prop
  | nil : EA [] []
  | cons {a : SA} {s : Sl} {A : List SA} {E : Ev} : a.ok s → EA A E → EA (a :: A) (s :: E)
theorem EA.get : ∀ {A : List SA} {E : Ev} {i : Nat} {a : SA}, EA A E → A[i]? = some a → ∃ s, E[i]? = some s ∧ a.ok s
  | _, _, _, _, .nil, e => by simp at e
  | _, _, 0, _, .cons h _, e => by simp at e; subst e; exact ⟨_, rfl, h⟩
  | _, _, i + 1, _, .cons _ r, e => by
    obtain ⟨s, h1, h2⟩ := r.get (i := i) (by simpa using e)
    exact ⟨s, by simpa using h1, h2⟩
theorem EA.set {a : SA} {s : Sl} (h : a.ok s) : ∀ {A : List SA} {E : Ev} (i : Nat), EA A E → EA (A.set i a) (E.set i s)
  | _, _, _, .nil => .nil
  | _, _, 0, .cons _ r => .cons h r
  | _, _, i + 1, .cons q r => .cons q (r.set h i)
theorem EA.setA {a : SA} {s : Sl} (h : a.ok s) : ∀ {A : List SA} {E : Ev} (i : Nat), EA A E → E[i]? = some s → EA (A.set i a) E
  | _, _, _, .nil, _ => .nil
  | _, _, 0, .cons _ r, e => by
    simp at e
    subst e
    exact .cons h r
  | _, _, i + 1, .cons q r, e => .cons q (r.setA h i (by simpa using e))
/-- knowing less -/
inductive SW : SA → SA → Prop
  | r {a : SA} : SW a a
  | a {a : SA} : SW a .any
  | s {d : D} : SW (.sh d) (.val d)
  | o {d : D} : SW (.own d) (.val d)
theorem SW.ok {a b : SA} {s : Sl} (w : SW a b) (h : a.ok s) : b.ok s := by
  cases w with
  | r => exact h
  | a => trivial
  | s => exact .inl h
  | o => rcases h with h | h
         · exact .inr h
         · exact .inl h.1
inductive Wk : List SA → List SA → Prop
  | n : Wk [] []
  | c {a b : SA} {A B : List SA} : SW a b → Wk A B → Wk (a :: A) (b :: B)
theorem EA.wk : ∀ {A B : List SA} {E : Ev}, EA A E → Wk A B → EA B E
  | _, _, _, .nil, .n => .nil
  | _, _, _, .cons h r, .c w ws => .cons (w.ok h) (r.wk ws)
def wipeA (A : List SA) : List Nat → List SA
  | [] => A
  | v :: vs => (wipeA A vs).set v .any
theorem EA.wipe {A : List SA} {E : Ev} (h : EA A E) : ∀ vs : List Nat, EA (wipeA A vs) (wipeE E vs)
  | [] => h
  | v :: vs => (h.wipe vs).set (a := .any) (s := .un) trivial v
theorem EA.rest0 {B C : List SA} {E1 E2 : Ev} {vs : List Nat} (v : Nat) (h : EA B (restE E1 vs E2)) (e : B.set v .any = C) : EA C (restE E1 (v :: vs) E2) := e ▸ h.set (a := .any) trivial v
theorem EA.rest1 {A B C : List SA} {E1 E2 : Ev} {vs : List Nat} {d : D} (v : Nat) (h1 : EA A E1) (hA : A[v]? = some (.sh d)) (h : EA B (restE E1 vs E2)) (e : B.set v (.sh d) = C) : EA C (restE E1 (v :: vs) E2) := by
  subst e
  obtain ⟨s, e, q⟩ := h1.get hA
  have q : s = .sh d := q
  subst q
  have : keepSh E1[v]? = .sh d := by rw [e]; rfl
  show EA (B.set v (.sh d)) ((restE E1 vs E2).set v (keepSh E1[v]?))
  rw [this]
  exact h.set (a := .sh d) rfl v
theorem EA.back {B C : List SA} {E : Ev} {s : D} (i : Nat) (hm : isMut s = true) (h : EA B E) (e : B.set i (.own s) = C) : EA C (E.set i (.ow s)) := e ▸ h.set (a := .own s) (.inl ⟨rfl, hm⟩) i
/-! ### results -/
inductive RK where
  | sh (d : D) | val (d : D) | fr (d : D)
def RK.d : RK → D
  | .sh d => d
  | .val d => d
  | .fr d => d
def RK.ok : RK → RV → Prop
  | .sh d, R => R = .sh d
  | .val d, R => R = .sh d ∨ (R = .fr d ∧ isMut d = true)
  | .fr d, R => (R = .fr d ∧ isMut d = true) ∨ (R = .sh d ∧ isMut d = false)
theorem val_d {d : D} {R : RV} (h : (RK.val d).ok R) : R.d = d := by
  rcases h with h | ⟨h, _⟩ <;> rw [h] <;> rfl
theorem sh_val {d : D} {R : RV} (h : (RK.sh d).ok R) : (RK.val d).ok R := .inl h
theorem fr_val {d : D} {R : RV} (h : (RK.fr d).ok R) : (RK.val d).ok R := by
  rcases h with h | h
  · exact .inr h
  · exact .inl h.1
theorem sh_sh {d : D} : (RK.sh d).ok (.sh d) := rfl
theorem sh_v {d : D} : (RK.val d).ok (.sh d) := .inl rfl
theorem frl_v {l : List D} : (RK.val (.lst l)).ok (.fr (.lst l)) := .inr ⟨rfl, rfl⟩
theorem frl_fr {l : List D} : (RK.fr (.lst l)).ok (.fr (.lst l)) := .inl ⟨rfl, rfl⟩
theorem fr_d {d : D} {R : RV} (h : (RK.fr d).ok R) : R.d = d := by
  rcases h with ⟨h, _⟩ | ⟨h, _⟩ <;> rw [h] <;> rfl
/-- the computation with slots does what the mirror says -/
def Ref {X γ : Type} (o : Out X) (r : Res γ) (P : γ → X → Ev → Prop) : Prop := match r with
  | .ok c => ∃ x E, o = .ok x E ∧ P c x E
  | .ex e => ∃ E, o = .ex e E
  | .stuck => True
theorem Ref.bind {X Y γ δ : Type} {o : Out X} {r : Res γ} {Q : γ → X → Ev → Prop} {k : X → Ev → Out Y} {f : γ → Res δ} {P : δ → Y → Ev → Prop} (h : Ref o r Q) (hk : ∀ c x E, Q c x E → Ref (k x E) (f c) P) : Ref (o.bind k) (r.bind f) P := by
  cases r with
  | ok c =>
    obtain ⟨x, E, rfl, q⟩ := h
    exact hk c x E q
  | ex e =>
    obtain ⟨E, rfl⟩ := h
    exact ⟨E, rfl⟩
  | stuck => trivial
theorem Ref.mono {X γ : Type} {o : Out X} {r : Res γ} {P Q : γ → X → Ev → Prop} (h : Ref o r P) (hq : ∀ c x E, P c x E → Q c x E) : Ref o r Q := by
  cases r with
  | ok c =>
    obtain ⟨x, E, e, q⟩ := h
    exact ⟨x, E, e, hq c x E q⟩
  | ex e => exact h
  | stuck => trivial
theorem Ref.start {X γ : Type} {o : Out X} {r : Res γ} {P : γ → X → Ev → Prop} (h : Ref (o.bind fun x E => .ok x E) r P) : Ref o r P := by
  have : (o.bind fun x E => Out.ok x E) = o := by cases o <;> rfl
  rw [this] at h
  exact h
theorem Ref.fin {X γ : Type} {x : X} {E : Ev} {c : γ} {P : γ → X → Ev → Prop} (h : P c x E) : Ref (.ok x E) (.ok c) P := ⟨x, E, rfl, h⟩
theorem Ref.raise {X γ : Type} {e : Xc} {E : Ev} {P : γ → X → Ev → Prop} : Ref (.ex e E : Out X) (.ex e) P := ⟨E, rfl⟩
theorem Ref.assoc {X Y Z γ : Type} {o : Out X} {f : X → Ev → Out Y} {g : Y → Ev → Out Z} {r : Res γ} {P : γ → Z → Ev → Prop} (h : Ref (o.bind fun x E => (f x E).bind g) r P) : Ref ((o.bind f).bind g) r P := by
  have : (o.bind f).bind g = o.bind fun x E => (f x E).bind g := by cases o <;> rfl
  rw [this]
  exact h
/-! ### steps of data -/
def r1 (f : D → Option RV) (a : D) : Res D := match f a with
  | some R => .ok R.d
  | none => .stuck
def r2 (f : D → D → Option RV) (a b : D) : Res D := match f a b with
  | some R => .ok R.d
  | none => .stuck
def rN (f : List D → Option RV) (ds : List D) : Res D := match f ds with
  | some R => .ok R.d
  | none => .stuck
def liftB (o : Option Bool) (E : Ev) : Out Bool := match o with
  | some b => .ok b E
  | none => .stuck
def rc2 (g : D → D → Option Bool) (a b : D) : Res Bool := match g a b with
  | some b => .ok b
  | none => .stuck
def rTru (d : D) : Res Bool := match truD d with
  | some b => .ok b
  | none => .stuck
def liftL (o : Option (List D)) (E : Ev) : Out (List D) := match o with
  | some l => .ok l E
  | none => .stuck
def rL (f : D → Option (List D)) (d : D) : Res (List D) := match f d with
  | some l => .ok l
  | none => .stuck
def rLN (f : List D → Option (List D)) (ds : List D) : Res (List D) := match f ds with
  | some l => .ok l
  | none => .stuck
/-- only of what can be changed -/
def bR {γ : Type} (d : D) (r : Res γ) : Res γ := if isMut d = true then r else .stuck
def lR {γ : Type} (d : D) (r : Res γ) : Res γ := if isLst d = true then r else .stuck
/-- x.m(..): the answer, and what x holds then -/
def rOwn (f : D → List D → Option (D × D)) (s : D) (ds : List D) : Res (D × D) := match f s ds with
  | some (d', r) => bR d' (.ok (r, d'))
  | none => .stuck
def rSet (s j v : D) : Res D := match s, j with
  | .lst xs, .int j => (match ixN xs.length j with
    | some n => .ok (.lst (xs.set n v))
    | none => .stuck)
  | _, _ => .stuck
def andG {γ : Type} (a : D) (f : γ) (r : Res γ) : Res γ := match a with
  | .bl true => r
  | .bl false => .ok f
  | _ => .stuck
def orG {γ : Type} (a : D) (t : γ) (r : Res γ) : Res γ := match a with
  | .bl true => .ok t
  | .bl false => r
  | _ => .stuck
def notR (a : D) : Res D := match a with
  | .bl b => .ok (.bl (!b))
  | _ => .stuck
def andB {γ : Type} (a : Bool) (f : γ) (r : Res γ) : Res γ := if a = true then r else .ok f
def orB {γ : Type} (a : Bool) (t : γ) (r : Res γ) : Res γ := if a = true then .ok t else r
def un1 {γ : Type} (d : D) (k : D → Res γ) : Res γ := match d with
  | .tup [a] => k a
  | _ => .stuck
def un2 {γ : Type} (d : D) (k : D → D → Res γ) : Res γ := match d with
  | .tup [a, b] => k a b
  | _ => .stuck
def un3 {γ : Type} (d : D) (k : D → D → D → Res γ) : Res γ := match d with
  | .tup [a, b, c] => k a b c
  | _ => .stuck
def un4 {γ : Type} (d : D) (k : D → D → D → D → Res γ) : Res γ := match d with
  | .tup [a, b, c, e] => k a b c e
  | _ => .stuck
def mapGo (f : D → Res D) : List D → Res (List D)
  | [] => .ok []
  | x :: xs => match f x with
    | .ok y => (mapGo f xs).bind fun l => .ok (y :: l)
    | _ => .stuck
def compGo (f : D → Res (Option D)) : List D → Res (List D)
  | [] => .ok []
  | x :: xs => match f x with
    | .ok (some y) => (compGo f xs).bind fun l => .ok (y :: l)
    | .ok none => compGo f xs
    | _ => .stuck
def mapSGo {σ : Type} (f : σ → D → Res (D × σ)) : σ → List D → Res (List D × σ)
  | s, [] => .ok ([], s)
  | s, x :: xs => match f s x with
    | .ok p => (mapSGo f p.2 xs).bind fun q => .ok (p.1 :: q.1, q.2)
    | _ => .stuck
def szL (l : List D) : Res (List D) := if l.length ≤ sizeLine then .ok l else .stuck
def mapR (f : D → Res D) (xs : List D) : Res (List D) := (mapGo f xs).bind szL
def compR (f : D → Res (Option D)) (xs : List D) : Res (List D) := (compGo f xs).bind szL
def mapSR {σ : Type} (f : σ → D → Res (D × σ)) (s : σ) (xs : List D) : Res (List D × σ) := (mapSGo f s xs).bind fun q => if q.1.length ≤ sizeLine then .ok q else .stuck
inductive Fw (σ ρ : Type) where
  | nx (s : σ) | rt (c : ρ)
def forR {σ : Type} (f : σ → D → Res σ) : σ → List D → Res σ
  | s, [] => .ok s
  | s, x :: xs => (f s x).bind fun s' => forR f s' xs
def forRF {σ ρ : Type} (f : σ → D → Res (Fw σ ρ)) : σ → List D → Res (Fw σ ρ)
  | s, [] => .ok (.nx s)
  | s, x :: xs => (f s x).bind fun w => match w with
    | .nx s' => forRF f s' xs
    | .rt c => .ok (.rt c)
def whR {σ : Type} (c : σ → Res Bool) (f : σ → Res σ) : Nat → σ → Res σ
  | 0, _ => .stuck
  | n + 1, s => (c s).bind fun b => if b = true then (f s).bind fun s' => whR c f n s' else .ok s
def whRF {σ ρ : Type} (c : σ → Res Bool) (f : σ → Res (Fw σ ρ)) : Nat → σ → Res (Fw σ ρ)
  | 0, _ => .stuck
  | n + 1, s => (c s).bind fun b => if b = true then (f s).bind fun w => (match w with
    | .nx s' => whRF c f n s'
    | .rt c => .ok (.rt c)) else .ok (.nx s)
def fwR {σ ρ γ : Type} (w : Fw σ ρ) (inj : ρ → Res γ) (rest : σ → Res γ) : Res γ := match w with
  | .nx s => rest s
  | .rt c => inj c
/-- a def's answer -/
def foR (o : FO) : Res D := match o with
  | .ok R => .ok R.d
  | .ex x => .ex x
  | .stuck => .stuck
def glR {γ : Type} (T : Nat → Option (List D → FO)) (a : D) (r : Res γ) : Res γ := match a with
  | .gl c => (match T c with
    | some _ => r
    | none => .stuck)
  | _ => .stuck
def lstR {γ : Type} (a : D) (r : List D → Res γ) : Res γ := match a with
  | .lst xs => r xs
  | _ => .stuck
def callL (T : Nat → Option (List D → FO)) (a : D) (ds : List D) : Res D := match a with
  | .gl c => (match T c with
    | some g => foR (g ds)
    | none => .stuck)
  | _ => .stuck
def FOk (o : FO) (r : Res D) (K : D → RK) : Prop := match r with
  | .ok d => ∃ R, o = .ok R ∧ (K d).ok R
  | .ex x => o = .ex x
  | .stuck => True
def FBk (o : FB) (r : Res (D × D)) (K : D → RK) : Prop := match r with
  | .ok p => ∃ R, o = .ok R p.2 ∧ (K p.1).ok R
  | .ex x => ∃ d, o = .ex x d
  | .stuck => True
end MM

/-! MM: the rules by which a mirror is shown (printed proofs use them). -/
namespace MM
open PySem PySem.Spec PyProof.Rows L2
section
variable {X γ δ : Type} {r : Res γ} {P : γ → X → Ev → Prop} {A A2 : List SA} {E : Ev} {i j : Nat} {d a b c : D} {k : RV → Ev → Out X} {ma mb mc : M RV} {R Ra Rb : RV}
theorem lc {x y : D} {xs ys : List D} (h : x = y) (hs : xs = ys) : x :: xs = y :: ys := by rw [h, hs]
/-! ### slots read -/
theorem r_c (h : Ref (k (.sh d) E) r P) : Ref ((eC d E).bind k) r P := h
theorem r_vs (hE : EA A E) (hA : A[i]? = some (.sh d)) (h : Ref (k (.sh d) E) r P) : Ref ((eV i E).bind k) r P := by
  obtain ⟨s, e, q⟩ := hE.get hA
  have q : s = .sh d := q
  subst q
  have : eV i E = .ok (.sh d) E := by unfold eV; rw [e]
  rw [this]
  exact h
theorem r_vv (hE : EA A E) (hA : A[i]? = some (.val d)) (h : ∀ E', EA (A.set i (.sh d)) E' → Ref (k (.sh d) E') r P) : Ref ((eV i E).bind k) r P := by
  obtain ⟨s, e, q⟩ := hE.get hA
  rcases q with q | ⟨q, _⟩
  · subst q
    have : eV i E = .ok (.sh d) E := by unfold eV; rw [e]
    rw [this]
    exact h E (hE.setA (a := .sh d) rfl i e)
  · subst q
    have : eV i E = .ok (.sh d) (E.set i (.sh d)) := by unfold eV; rw [e]
    rw [this]
    exact h _ (hE.set (a := .sh d) rfl i)
theorem r_vo (hE : EA A E) (hA : A[i]? = some (.own d)) (h : ∀ E', EA (A.set i (.sh d)) E' → Ref (k (.sh d) E') r P) : Ref ((eV i E).bind k) r P := by
  obtain ⟨s, e, q⟩ := hE.get hA
  rcases q with ⟨q, _⟩ | ⟨q, _⟩
  · subst q
    have : eV i E = .ok (.sh d) (E.set i (.sh d)) := by unfold eV; rw [e]
    rw [this]
    exact h _ (hE.set (a := .sh d) rfl i)
  · subst q
    have : eV i E = .ok (.sh d) E := by unfold eV; rw [e]
    rw [this]
    exact h E (hE.setA (a := .sh d) rfl i e)
theorem r_gs (hE : EA A E) (hA : A[i]? = some (.sh d)) (h : Ref (k (.sh d) E) r P) : Ref ((eGive i E).bind k) r P := by
  obtain ⟨s, e, q⟩ := hE.get hA
  have q : s = .sh d := q
  subst q
  have : eGive i E = .ok (.sh d) E := by unfold eGive; rw [e]
  rw [this]
  exact h
theorem r_gv (hE : EA A E) (hA : A[i]? = some (.val d)) (h : ∀ R E', (RK.val d).ok R → EA (A.set i .any) E' → Ref (k R E') r P) : Ref ((eGive i E).bind k) r P := by
  obtain ⟨s, e, q⟩ := hE.get hA
  rcases q with q | ⟨q, hm⟩
  · subst q
    have : eGive i E = .ok (.sh d) E := by unfold eGive; rw [e]
    rw [this]
    exact h _ E (.inl rfl) (hE.setA (a := .any) (s := .sh d) trivial i e)
  · subst q
    have : eGive i E = .ok (.fr d) (E.set i .un) := by unfold eGive; rw [e]
    rw [this]
    exact h _ _ (.inr ⟨rfl, hm⟩) (hE.set (a := .any) (s := .un) trivial i)
theorem r_go (hE : EA A E) (hA : A[i]? = some (.own d)) (h : ∀ R E', (RK.fr d).ok R → EA (A.set i .any) E' → Ref (k R E') r P) : Ref ((eGive i E).bind k) r P := by
  obtain ⟨s, e, q⟩ := hE.get hA
  rcases q with ⟨q, hm⟩ | ⟨q, hm⟩
  · subst q
    have : eGive i E = .ok (.fr d) (E.set i .un) := by unfold eGive; rw [e]
    rw [this]
    exact h _ _ (.inl ⟨rfl, hm⟩) (hE.set (a := .any) (s := .un) trivial i)
  · subst q
    have : eGive i E = .ok (.sh d) E := by unfold eGive; rw [e]
    rw [this]
    exact h _ E (.inr ⟨rfl, hm⟩) (hE.setA (a := .any) (s := .sh d) trivial i e)
/-! ### operations -/
theorem r_e1 {f : D → Option RV} (h : Ref ((ma E).bind fun a E1 => (liftO (f a.d) E1).bind k) r P) : Ref ((e1 f ma E).bind k) r P := Ref.assoc h
theorem r_e2 {f : D → D → Option RV} (h : Ref ((ma E).bind fun a E1 => (mb E1).bind fun b E2 => (liftO (f a.d b.d) E2).bind k) r P) : Ref ((e2 f ma mb E).bind k) r P := by
  refine Ref.assoc ?_
  have : (fun a E1 => ((mb E1).bind fun b E2 => liftO (f a.d b.d) E2).bind k) = fun (a : RV) E1 => (mb E1).bind fun b E2 => (liftO (f a.d b.d) E2).bind k := by
    funext a E1
    cases mb E1 <;> rfl
  rw [this]
  exact h
theorem r_eN {f : List D → Option RV} {m : M (List D)} (h : Ref ((m E).bind fun ds E1 => (liftO (f ds) E1).bind k) r P) : Ref ((eN f m E).bind k) r P := Ref.assoc h
theorem r_nil {k : List D → Ev → Out X} (h : Ref (k [] E) r P) : Ref ((aNil E).bind k) r P := h
theorem r_cons {k : List D → Ev → Out X} {mr : M (List D)} (h : Ref ((ma E).bind fun a E1 => (mr E1).bind fun ds E2 => k (a.d :: ds) E2) r P) : Ref ((aCons ma mr E).bind k) r P := by
  refine Ref.assoc ?_
  have : (fun (a : RV) E1 => ((mr E1).bind fun ds E2 => Out.ok (a.d :: ds) E2).bind k) = fun (a : RV) E1 => (mr E1).bind fun ds E2 => k (a.d :: ds) E2 := by
    funext a E1
    cases mr E1 <;> rfl
  rw [this]
  exact h
/-- operations whose results are never new lists -/
theorem r_op1 {f : D → Option RV} {rest : D → Res γ} (hf : ∀ a R, f a = some R → R = .sh R.d) (ha : Ra.d = a) (h : ∀ d, Ref (k (.sh d) E) (rest d) P) : Ref ((liftO (f Ra.d) E).bind k) ((r1 f a).bind rest) P := by
  rw [ha]
  unfold r1
  cases e : f a with
  | none => trivial
  | some R =>
    have := hf _ _ e
    show Ref (k R E) _ P
    rw [this]
    exact h _
theorem r_op2 {f : D → D → Option RV} {rest : D → Res γ} (hf : ∀ a b R, f a b = some R → R = .sh R.d) (ha : Ra.d = a) (hb : Rb.d = b) (h : ∀ d, Ref (k (.sh d) E) (rest d) P) : Ref ((liftO (f Ra.d Rb.d) E).bind k) ((r2 f a b).bind rest) P := by
  rw [ha, hb]
  unfold r2
  cases e : f a b with
  | none => trivial
  | some R =>
    have := hf _ _ _ e
    show Ref (k R E) _ P
    rw [this]
    exact h _
theorem r_opN {f : List D → Option RV} {rest : D → Res γ} {ds ds' : List D} (hf : ∀ ds R, f ds = some R → R = .sh R.d) (ha : ds = ds') (h : ∀ d, Ref (k (.sh d) E) (rest d) P) : Ref ((liftO (f ds) E).bind k) ((rN f ds').bind rest) P := by
  rw [ha]
  unfold rN
  cases e : f ds' with
  | none => trivial
  | some R =>
    have := hf _ _ e
    show Ref (k R E) _ P
    rw [this]
    exact h _
theorem sh_int2 {c : Int → Int → Bool} {g : Int → Int → Int} (a b : D) (R : RV) (h : fInt2 c g a b = some R) : R = .sh R.d := by
  unfold fInt2 at h
  split at h
  · split at h
    · cases h; rfl
    · cases h
  · cases h
theorem sh_mul (a b : D) (R : RV) (h : fMul a b = some R) : R = .sh R.d := by
  unfold fMul at h
  split at h
  · split at h
    · cases h; rfl
    · cases h
  · split at h
    · cases h; rfl
    · cases h
  · cases h
theorem sh_neg (a : D) (R : RV) (h : fNeg a = some R) : R = .sh R.d := by
  unfold fNeg at h
  split at h
  · cases h; rfl
  · cases h
theorem sh_cmp {g : D → D → Option Bool} (a b : D) (R : RV) (h : cmp g a b = some R) : R = .sh R.d := by
  unfold cmp at h
  obtain ⟨t, _, rfl⟩ := Option.map_eq_some_iff.mp h
  rfl
theorem sh_ix (a b : D) (R : RV) (h : fIx a b = some R) : R = .sh R.d := by
  unfold fIx at h
  split at h
  · obtain ⟨t, _, rfl⟩ := Option.map_eq_some_iff.mp h
    rfl
  · cases h
theorem sh_tup (a : List D) (R : RV) (h : fTup a = some R) : R = .sh R.d := by
  unfold fTup at h
  split at h
  · cases h; rfl
  · cases h
theorem sh_abs (a : List D) (R : RV) (h : fAbs a = some R) : R = .sh R.d := by
  unfold fAbs at h
  split at h
  · cases h; rfl
  · cases h
theorem sh_int1 (a : List D) (R : RV) (h : fInt1 a = some R) : R = .sh R.d := by
  unfold fInt1 at h
  split at h
  · cases h; rfl
  · cases h; rfl
  · cases h
theorem sh_min2 (a : List D) (R : RV) (h : fMin2 a = some R) : R = .sh R.d := by
  unfold fMin2 at h
  split at h
  · cases h; rfl
  · cases h
theorem sh_max2 (a : List D) (R : RV) (h : fMax2 a = some R) : R = .sh R.d := by
  unfold fMax2 at h
  split at h
  · cases h; rfl
  · cases h
theorem sh_max3 (a : List D) (R : RV) (h : fMax3 a = some R) : R = .sh R.d := by
  unfold fMax3 at h
  split at h
  · cases h; rfl
  · cases h
theorem sh_len (a : List D) (R : RV) (h : fLen a = some R) : R = .sh R.d := by
  unfold fLen at h
  split at h
  · split at h
    · cases h; rfl
    · cases h
  · obtain ⟨t, _, rfl⟩ := Option.map_eq_some_iff.mp h
    rfl
  · cases h
theorem sh_isi (a : List D) (R : RV) (h : fIsi a = some R) : R = .sh R.d := by
  unfold fIsi at h
  split at h
  · obtain ⟨t, _, rfl⟩ := Option.map_eq_some_iff.mp h
    rfl
  · cases h
theorem sh_isiT (a : List D) (R : RV) (h : fIsiT a = some R) : R = .sh R.d := by
  unfold fIsiT at h
  split at h
  · obtain ⟨l, _, h⟩ := Option.bind_eq_some_iff.mp h
    split at h
    · cases h
    · obtain ⟨t, _, rfl⟩ := Option.map_eq_some_iff.mp h
      rfl
  · cases h
theorem sh_isiA (a : List D) (R : RV) (h : fIsiA a = some R) : R = .sh R.d := by
  unfold fIsiA at h
  split at h
  · exact sh_isiT _ R h
  · exact sh_isi _ R h
theorem sh_all (a : List D) (R : RV) (h : fAll a = some R) : R = .sh R.d := by
  unfold fAll at h
  split at h
  · obtain ⟨t, _, rfl⟩ := Option.map_eq_some_iff.mp h
    rfl
  · cases h
theorem sh_any (a : List D) (R : RV) (h : fAny a = some R) : R = .sh R.d := by
  unfold fAny at h
  split at h
  · obtain ⟨t, _, rfl⟩ := Option.map_eq_some_iff.mp h
    rfl
  · cases h
theorem sh_maxL (a : List D) (R : RV) (h : fMaxL a = some R) : R = .sh R.d := by
  unfold fMaxL at h
  split at h
  all_goals first
  | (obtain ⟨l, _, h⟩ := Option.bind_eq_some_iff.mp h
     obtain ⟨t, _, rfl⟩ := Option.map_eq_some_iff.mp h
     rfl)
  | cases h
theorem sh_tupOf (a : List D) (R : RV) (h : fTupOf a = some R) : R = .sh R.d := by
  unfold fTupOf at h
  split at h
  all_goals first
  | (cases h; rfl)
  | (split at h
     · cases h; rfl
     · cases h)
  | cases h
theorem sh_sum (a : List D) (R : RV) (h : fSum a = some R) : R = .sh R.d := by
  unfold fSum at h
  split at h
  · obtain ⟨l, _, h⟩ := Option.bind_eq_some_iff.mp h
    obtain ⟨t, _, rfl⟩ := Option.map_eq_some_iff.mp h
    rfl
  · cases h
/-- what makes lists makes new ones -/
theorem r_op2f {f : D → D → Option RV} {rest : D → Res γ} (hf : ∀ a b R, f a b = some R → (RK.fr R.d).ok R) (ha : Ra.d = a) (hb : Rb.d = b) (h : ∀ d R, (RK.fr d).ok R → Ref (k R E) (rest d) P) : Ref ((liftO (f Ra.d Rb.d) E).bind k) ((r2 f a b).bind rest) P := by
  rw [ha, hb]
  unfold r2
  cases e : f a b with
  | none => trivial
  | some R => exact h _ R (hf _ _ _ e)
theorem r_opNf {f : List D → Option RV} {rest : D → Res γ} {ds ds' : List D} (hf : ∀ ds R, f ds = some R → (RK.fr R.d).ok R) (ha : ds = ds') (h : ∀ d R, (RK.fr d).ok R → Ref (k R E) (rest d) P) : Ref ((liftO (f ds) E).bind k) ((rN f ds').bind rest) P := by
  rw [ha]
  unfold rN
  cases e : f ds' with
  | none => trivial
  | some R => exact h _ R (hf _ _ e)
theorem fr_add (a b : D) (R : RV) (h : fAdd a b = some R) : (RK.fr R.d).ok R := by
  unfold fAdd at h
  split at h
  · cases h; exact .inr ⟨rfl, rfl⟩
  · split at h
    · cases h; exact .inr ⟨rfl, rfl⟩
    · cases h
  · split at h
    · cases h; exact .inl ⟨rfl, rfl⟩
    · cases h
  · split at h
    · cases h; exact .inr ⟨rfl, rfl⟩
    · cases h
  · cases h
theorem fr_lst (ds : List D) (R : RV) (h : fLst ds = some R) : (RK.fr R.d).ok R := by
  unfold fLst at h
  split at h
  · cases h; exact .inl ⟨rfl, rfl⟩
  · cases h
theorem fr_lstOf (ds : List D) (R : RV) (h : fLstOf ds = some R) : (RK.fr R.d).ok R := by
  unfold fLstOf at h
  split at h
  · obtain ⟨l, _, h⟩ := Option.map_eq_some_iff.mp h
    cases h; exact .inl ⟨rfl, rfl⟩
  · cases h
theorem fr_sorted (ds : List D) (R : RV) (h : fSorted ds = some R) : (RK.fr R.d).ok R := by
  unfold fSorted at h
  split at h
  · obtain ⟨l, _, h⟩ := Option.bind_eq_some_iff.mp h
    split at h
    · cases h; exact .inl ⟨rfl, rfl⟩
    · cases h
  · cases h
/-! ### and, or, not of values; one of two values -/
def andK (mb : M RV) (a : D) (E1 : Ev) : Out RV := match a with
  | .bl true => mb E1
  | .bl false => .ok (.sh (.bl false)) E1
  | _ => .stuck
def orK (mb : M RV) (a : D) (E1 : Ev) : Out RV := match a with
  | .bl false => mb E1
  | .bl true => .ok (.sh (.bl true)) E1
  | _ => .stuck
def notK (a : D) (E1 : Ev) : Out RV := match a with
  | .bl k => .ok (.sh (.bl (!k))) E1
  | _ => .stuck
def oiK (a : D) (E1 : Ev) : Out (Option Int) := match a with
  | .int i => .ok (some i) E1
  | _ => .stuck
def revK (a : D) (E1 : Ev) : Out RV := match a with
  | .lst xs => .ok (.fr (.lst xs.reverse)) E1
  | .tup xs => .ok (.sh (.tup xs.reverse)) E1
  | _ => .stuck
def chK (g g' : D → D → Option Bool) (mc : M RV) (a b : D) (E2 : Ev) : Out Bool := match g a b with
  | some true => (mc E2).bind fun c E3 => liftB (g' b c.d) E3
  | some false => .ok false E2
  | none => .stuck
def chDK (g g' : D → D → Option Bool) (mc : M RV) (a b : D) (E2 : Ev) : Out RV := match g a b with
  | some true => (mc E2).bind fun c E3 => liftO (cmp g' b c.d) E3
  | some false => .ok (.sh (.bl false)) E2
  | none => .stuck
theorem r_eAnd (hk : Ref ((ma E).bind fun a E1 => (andK mb a.d E1).bind k) r P) : Ref ((eAnd ma mb E).bind k) r P := Ref.assoc hk
theorem r_and {rest : δ → Res γ} {K : δ → RK} {A2 : δ → List SA} {f : δ} {rb : Res δ} (hE : EA A E) (ha : Ra.d = a) (hf : (K f).ok (.sh (.bl false))) (hw : Wk A (A2 f)) (hb : Ref (mb E) rb fun c R E' => (K c).ok R ∧ EA (A2 c) E') (h : ∀ c R E', (K c).ok R → EA (A2 c) E' → Ref (k R E') (rest c) P) :
    Ref ((andK mb Ra.d E).bind k) ((andG a f rb).bind rest) P := by
  rw [ha]
  unfold andG andK
  cases a with
  | bl b =>
    cases b with
    | true => exact hb.bind fun c R E' q => h c R E' q.1 q.2
    | false => exact h f _ E hf (hE.wk hw)
  | _ => trivial
theorem r_eOr (hk : Ref ((ma E).bind fun a E1 => (orK mb a.d E1).bind k) r P) : Ref ((eOr ma mb E).bind k) r P := Ref.assoc hk
theorem r_or {rest : δ → Res γ} {K : δ → RK} {A2 : δ → List SA} {f : δ} {rb : Res δ} (hE : EA A E) (ha : Ra.d = a) (hf : (K f).ok (.sh (.bl true))) (hw : Wk A (A2 f)) (hb : Ref (mb E) rb fun c R E' => (K c).ok R ∧ EA (A2 c) E') (h : ∀ c R E', (K c).ok R → EA (A2 c) E' → Ref (k R E') (rest c) P) :
    Ref ((orK mb Ra.d E).bind k) ((orG a f rb).bind rest) P := by
  rw [ha]
  unfold orG orK
  cases a with
  | bl b =>
    cases b with
    | false => exact hb.bind fun c R E' q => h c R E' q.1 q.2
    | true => exact h f _ E hf (hE.wk hw)
  | _ => trivial
theorem r_eNot (hk : Ref ((ma E).bind fun a E1 => (notK a.d E1).bind k) r P) : Ref ((eNot ma E).bind k) r P := Ref.assoc hk
theorem r_not {rest : D → Res γ} (ha : Ra.d = a) (h : ∀ d, Ref (k (.sh d) E) (rest d) P) : Ref ((notK Ra.d E).bind k) ((notR a).bind rest) P := by
  rw [ha]
  unfold notR notK
  cases a <;> first | exact h _ | trivial
def ifK {Y : Type} (ma mb : Ev → Out Y) (t : Bool) (E : Ev) : Out Y := if t = true then ma E else mb E
theorem r_eIf {mt : M Bool} (h : Ref ((mt E).bind fun t E1 => (ifK ma mb t E1).bind k) r P) : Ref ((eIf mt ma mb E).bind k) r P := Ref.assoc h
theorem r_if {t : Bool} {rest : δ → Res γ} {K : δ → RK} {A2 : δ → List SA} {ra rb : Res δ} (ha : Ref (ma E) ra fun c R E' => (K c).ok R ∧ EA (A2 c) E') (hb : Ref (mb E) rb fun c R E' => (K c).ok R ∧ EA (A2 c) E') (h : ∀ c R E', (K c).ok R → EA (A2 c) E' → Ref (k R E') (rest c) P) :
    Ref ((ifK ma mb t E).bind k) ((if t = true then ra else rb).bind rest) P := by
  unfold ifK
  split
  · exact ha.bind fun c R E' q => h c R E' q.1 q.2
  · exact hb.bind fun c R E' q => h c R E' q.1 q.2
theorem r_ifD {t : Bool} {rest : δ → Res γ} {pd : δ → D} {A2 : δ → List SA} {ra rb : Res δ} (ha : Ref (ma E) ra fun c R E' => R.d = pd c ∧ EA (A2 c) E') (hb : Ref (mb E) rb fun c R E' => R.d = pd c ∧ EA (A2 c) E') (h : ∀ c R E', R.d = pd c → EA (A2 c) E' → Ref (k R E') (rest c) P) :
    Ref ((ifK ma mb t E).bind k) ((if t = true then ra else rb).bind rest) P := by
  unfold ifK
  split
  · exact ha.bind fun c R E' q => h c R E' q.1 q.2
  · exact hb.bind fun c R E' q => h c R E' q.1 q.2
/-! ### slices, turned about -/
def rSl (a : D) (lo hi : Option D) : Res D := match lo, hi with
  | none, none => r1 (fun a => fSl a none none) a
  | some (.int l), none => r1 (fun a => fSl a (some l) none) a
  | none, some (.int h) => r1 (fun a => fSl a none (some h)) a
  | some (.int l), some (.int h) => r1 (fun a => fSl a (some l) (some h)) a
  | _, _ => .stuck
theorem fr_sl (a : D) (lo hi : Option Int) (R : RV) (h : fSl a lo hi = some R) : (RK.fr R.d).ok R := by
  unfold fSl at h
  split at h
  · cases h; exact .inr ⟨rfl, rfl⟩
  · cases h; exact .inl ⟨rfl, rfl⟩
  · cases h; exact .inl ⟨rfl, rfl⟩
  · cases h
theorem r_eSl {lo hi : Option (M RV)} (h : Ref ((ma E).bind fun a E1 => (optM lo E1).bind fun l E2 => (optM hi E2).bind fun h E3 => (liftO (fSl a.d l h) E3).bind k) r P) : Ref ((eSl ma lo hi E).bind k) r P := by
  refine Ref.assoc ?_
  have : (fun (a : RV) E1 => ((optM lo E1).bind fun l E2 => (optM hi E2).bind fun h E3 => liftO (fSl a.d l h) E3).bind k) = fun (a : RV) E1 => (optM lo E1).bind fun l E2 => (optM hi E2).bind fun h E3 => (liftO (fSl a.d l h) E3).bind k := by
    funext a E1
    cases optM lo E1 with
    | ok l E2 =>
      show Out.bind (Out.bind (optM hi E2) _) k = Out.bind (optM hi E2) _
      cases optM hi E2 <;> rfl
    | _ => rfl
  rw [this]
  exact h
def intR {γ : Type} (d : D) (r : Int → Res γ) : Res γ := match d with
  | .int i => r i
  | _ => .stuck
theorem r_o0 {k : Option Int → Ev → Out X} (h : Ref (k none E) r P) : Ref ((optM none E).bind k) r P := h
theorem r_o1 {k : Option Int → Ev → Out X} (h : Ref ((ma E).bind fun r E1 => (oiK r.d E1).bind k) r P) : Ref ((optM (some ma) E).bind k) r P := Ref.assoc h
theorem r_oi {k : Option Int → Ev → Out X} {rest : Int → Res γ} (ha : Ra.d = a) (h : ∀ i, Ref (k (some i) E) (rest i) P) : Ref ((oiK Ra.d E).bind k) (intR a rest) P := by
  rw [ha]
  unfold intR oiK
  cases a <;> first | exact h _ | trivial
def slR (a : D) (lo hi : Option Int) : Res D := match fSl a lo hi with
  | some R => .ok R.d
  | none => .stuck
theorem r_sl {lo hi : Option Int} {rest : D → Res γ} (ha : Ra.d = a) (h : ∀ d R, (RK.fr d).ok R → Ref (k R E) (rest d) P) : Ref ((liftO (fSl Ra.d lo hi) E).bind k) ((slR a lo hi).bind rest) P := by
  rw [ha]
  unfold slR
  cases e : fSl a lo hi with
  | none => trivial
  | some R => exact h _ R (fr_sl _ _ _ _ e)
def revR (a : D) : Res D := match a with
  | .lst xs => .ok (.lst xs.reverse)
  | .tup xs => .ok (.tup xs.reverse)
  | _ => .stuck
theorem r_eRev (h : Ref ((ma E).bind fun r E1 => (revK r.d E1).bind k) r P) : Ref ((eRevX ma E).bind k) r P := Ref.assoc h
theorem r_rev {rest : D → Res γ} (ha : Ra.d = a) (h : ∀ d R, (RK.fr d).ok R → Ref (k R E) (rest d) P) : Ref ((revK Ra.d E).bind k) ((revR a).bind rest) P := by
  rw [ha]
  unfold revR revK
  cases a <;> first | exact h _ _ (.inl ⟨rfl, rfl⟩) | exact h _ _ (.inr ⟨rfl, rfl⟩) | trivial
/-! ### tests -/
section
variable {k : Bool → Ev → Out X} {ta tb : M Bool} {t : Bool}
theorem r_t2 {g : D → D → Option Bool} (h : Ref ((ma E).bind fun a E1 => (mb E1).bind fun b E2 => (liftB (g a.d b.d) E2).bind k) r P) : Ref ((t2 g ma mb E).bind k) r P := by
  refine Ref.assoc ?_
  have e : ∀ (a : RV) E1, (((mb E1).bind fun b E2 => match g a.d b.d with
    | some k => Out.ok k E2
    | none => .stuck).bind k) = (mb E1).bind fun b E2 => (liftB (g a.d b.d) E2).bind k := fun a E1 => by
    cases mb E1 <;> rfl
  have : (fun (a : RV) E1 => (((mb E1).bind fun b E2 => match g a.d b.d with
    | some k => Out.ok k E2
    | none => .stuck).bind k)) = fun (a : RV) E1 => (mb E1).bind fun b E2 => (liftB (g a.d b.d) E2).bind k := by funext a E1; exact e a E1
  exact this ▸ h
theorem r_opB {g : D → D → Option Bool} {rest : Bool → Res γ} (ha : Ra.d = a) (hb : Rb.d = b) (h : ∀ t, Ref (k t E) (rest t) P) : Ref ((liftB (g Ra.d Rb.d) E).bind k) ((rc2 g a b).bind rest) P := by
  rw [ha, hb]
  unfold rc2
  cases g a b with
  | none => trivial
  | some t => exact h t
theorem r_tV (h : Ref ((ma E).bind fun a E1 => (liftB (truD a.d) E1).bind k) r P) : Ref ((tV ma E).bind k) r P := Ref.assoc h
theorem r_tru {rest : Bool → Res γ} (ha : Ra.d = a) (h : ∀ t, Ref (k t E) (rest t) P) : Ref ((liftB (truD Ra.d) E).bind k) ((rTru a).bind rest) P := by
  rw [ha]
  unfold rTru
  cases truD a with
  | none => trivial
  | some t => exact h t
theorem r_tNot (h : Ref ((ta E).bind fun c E1 => k (!c) E1) r P) : Ref ((MM.tNot ta E).bind k) r P := Ref.assoc h
theorem r_tTrue (h : Ref (k true E) r P) : Ref ((tTrue E).bind k) r P := h
theorem r_tAnd (h : Ref ((ta E).bind fun c E1 => (ifK tb (.ok false) c E1).bind k) r P) : Ref ((MM.tAnd ta tb E).bind k) r P := Ref.assoc h
theorem r_andB {rest : δ → Res γ} {Kd : δ → Bool} {A2 : δ → List SA} {f : δ} {rb : Res δ} (hE : EA A E) (hf : Kd f = false := by rfl) (hw : Wk A (A2 f)) (hb : Ref (tb E) rb fun c x E' => x = Kd c ∧ EA (A2 c) E') (h : ∀ c E', EA (A2 c) E' → Ref (k (Kd c) E') (rest c) P) :
    Ref ((ifK tb (.ok false) t E).bind k) ((andB t f rb).bind rest) P := by
  unfold andB ifK
  split
  · exact hb.bind fun c x E' q => by rw [q.1]; exact h c E' q.2
  · have := h f E (hE.wk hw)
    rw [hf] at this
    exact this
theorem r_tOr (h : Ref ((ta E).bind fun c E1 => (ifK (.ok true) tb c E1).bind k) r P) : Ref ((MM.tOr ta tb E).bind k) r P := Ref.assoc h
theorem r_orB {rest : δ → Res γ} {Kd : δ → Bool} {A2 : δ → List SA} {f : δ} {rb : Res δ} (hE : EA A E) (hf : Kd f = true := by rfl) (hw : Wk A (A2 f)) (hb : Ref (tb E) rb fun c x E' => x = Kd c ∧ EA (A2 c) E') (h : ∀ c E', EA (A2 c) E' → Ref (k (Kd c) E') (rest c) P) :
    Ref ((ifK (.ok true) tb t E).bind k) ((orB t f rb).bind rest) P := by
  unfold orB ifK
  split
  · have := h f E (hE.wk hw)
    rw [hf] at this
    exact this
  · exact hb.bind fun c x E' q => by rw [q.1]; exact h c E' q.2
def chR (g g' : D → D → Option Bool) (a b : D) (c : Res D) : Res Bool := match g a b with
  | some true => c.bind fun c => rc2 g' b c
  | some false => .ok false
  | none => .stuck
theorem r_tChain {g g' : D → D → Option Bool} (h : Ref ((ma E).bind fun a E1 => (mb E1).bind fun b E2 => (chK g g' mc a.d b.d E2).bind k) r P) : Ref ((MM.tChain g g' ma mb mc E).bind k) r P := by
  refine Ref.assoc ?_
  have e : ∀ (a : RV) E1, (((mb E1).bind fun b E2 => match g a.d b.d with
  | some true => (mc E2).bind fun c E3 => match g' b.d c.d with
    | some k => Out.ok k E3
    | none => .stuck
  | some false => .ok false E2
  | none => .stuck).bind k) = (mb E1).bind fun b E2 => (chK g g' mc a.d b.d E2).bind k := fun a E1 => by
    cases mb E1 <;> rfl
  have : (fun (a : RV) E1 => (((mb E1).bind fun b E2 => match g a.d b.d with
  | some true => (mc E2).bind fun c E3 => match g' b.d c.d with
    | some k => Out.ok k E3
    | none => .stuck
  | some false => .ok false E2
  | none => .stuck).bind k)) = fun (a : RV) E1 => (mb E1).bind fun b E2 => (chK g g' mc a.d b.d E2).bind k := by funext a E1; exact e a E1
  exact this ▸ h
theorem r_ch {g g' : D → D → Option Bool} {rest : Bool → Res γ} {rc : Res D} (hE : EA A E) (ha : Ra.d = a) (hb : Rb.d = b) (hw : Wk A A2) (hc : Ref (mc E) rc fun c R E' => R.d = c ∧ EA A2 E') (h : ∀ t E', EA A2 E' → Ref (k t E') (rest t) P) : Ref ((chK g g' mc Ra.d Rb.d E).bind k) ((chR g g' a b rc).bind rest) P := by
  rw [ha, hb]
  unfold chR chK
  cases g a b with
  | none => trivial
  | some t =>
    cases t with
    | false => exact h false E (hE.wk hw)
    | true =>
      refine Ref.bind (Q := fun t x E' => x = t ∧ EA A2 E') (hc.bind fun c R E' q => ?_) fun t x E' q => by rw [q.1]; exact h t E' q.2
      rw [q.1]
      unfold rc2
      cases g' b c with
      | none => trivial
      | some t => exact ⟨t, E', rfl, rfl, q.2⟩
end
def chD (g g' : D → D → Option Bool) (a b : D) (c : Res D) : Res D := (chR g g' a b c).bind fun t => .ok (.bl t)
theorem r_eChain {g g' : D → D → Option Bool} (h : Ref ((ma E).bind fun a E1 => (mb E1).bind fun b E2 => (chDK g g' mc a.d b.d E2).bind k) r P) : Ref ((eChain g g' ma mb mc E).bind k) r P := by
  refine Ref.assoc ?_
  have e : ∀ (a : RV) E1, (((mb E1).bind fun b E2 => match g a.d b.d with
  | some true => (mc E2).bind fun c E3 => liftO (cmp g' b.d c.d) E3
  | some false => .ok (.sh (.bl false)) E2
  | none => .stuck).bind k) = (mb E1).bind fun b E2 => (chDK g g' mc a.d b.d E2).bind k := fun a E1 => by
    cases mb E1 <;> rfl
  have : (fun (a : RV) E1 => (((mb E1).bind fun b E2 => match g a.d b.d with
  | some true => (mc E2).bind fun c E3 => liftO (cmp g' b.d c.d) E3
  | some false => .ok (.sh (.bl false)) E2
  | none => .stuck).bind k)) = fun (a : RV) E1 => (mb E1).bind fun b E2 => (chDK g g' mc a.d b.d E2).bind k := by funext a E1; exact e a E1
  exact this ▸ h
theorem r_chD {g g' : D → D → Option Bool} {rest : D → Res γ} {rc : Res D} (hE : EA A E) (ha : Ra.d = a) (hb : Rb.d = b) (hw : Wk A A2) (hc : Ref (mc E) rc fun c R E' => R.d = c ∧ EA A2 E') (h : ∀ d E', EA A2 E' → Ref (k (.sh d) E') (rest d) P) : Ref ((chDK g g' mc Ra.d Rb.d E).bind k) ((chD g g' a b rc).bind rest) P := by
  rw [ha, hb]
  unfold chD chR chDK
  cases g a b with
  | none => trivial
  | some t =>
    cases t with
    | false => exact h _ E (hE.wk hw)
    | true =>
      refine Ref.bind (Q := fun d R E' => R = .sh d ∧ EA A2 E') ?_ fun d R E' q => by rw [q.1]; exact h d E' q.2
      show Ref _ ((rc.bind fun c => rc2 g' b c).bind fun t => Res.ok (D.bl t)) _
      rw [Res.bind_assoc]
      refine hc.bind fun c R E' q => ?_
      rw [q.1]
      unfold rc2 cmp
      cases g' b c with
      | none => trivial
      | some t => exact ⟨_, E', rfl, rfl, q.2⟩
/-! ### lists that a slot owns -/
theorem own_mut {E : Ev} {s : D} (hE : EA A E) (hA : A[i]? = some (.own s)) (hm : isMut s = true) : E[i]? = some (.ow s) := by
  obtain ⟨sl, e, q⟩ := hE.get hA
  rcases q with ⟨q, _⟩ | ⟨_, q⟩
  · rw [e, q]
  · rw [hm] at q; cases q
theorem bo_at {E : Ev} {s : D} (hE : EA A E) (hA : A[i]? = some (.bo s)) : E[i]? = some (.bo s) := by
  obtain ⟨sl, e, q⟩ := hE.get hA
  have q : sl = .bo s := q
  rw [e, q]
theorem lst_mut {s : D} (h : isLst s = true) : isMut s = true := by cases s <;> first | rfl | cases h
theorem own_hold {E : Ev} {s : D} (hE : EA A E) (hA : A[i]? = some (.own s) ∨ A[i]? = some (.bo s)) (hm : isMut s = true) : hold E i = some s := by
  unfold hold
  rcases hA with hA | hA
  · rw [own_mut hE hA hm]
  · rw [bo_at hE hA]
theorem own_put {E : Ev} {s : D} (s' : D) (hE : EA A E) (hA : A[i]? = some (.own s)) (hm : isMut s = true) (hm' : isMut s' = true) : EA (A.set i (.own s')) (putH E i s') := by
  unfold putH
  rw [own_mut hE hA hm]
  exact hE.set (a := .own s') (.inl ⟨rfl, hm'⟩) i
theorem bo_put {E : Ev} {s : D} (s' : D) (hE : EA A E) (hA : A[i]? = some (.bo s)) : EA (A.set i (.bo s')) (putH E i s') := by
  unfold putH
  rw [bo_at hE hA]
  exact hE.set (a := .bo s') rfl i
section
variable {s : D} {q : D → Bool} {f : D → List D → Option (D × D)} {m : M (List D)} {rest : D × D → Res γ} {ds ds' : List D}
/-- ahead of the arguments -/
theorem r_eOwn (hE : EA A E) (hA : A[i]? = some (.own s) ∨ A[i]? = some (.bo s)) (h : isLst s = true → Ref ((m E).bind fun ds E1 => Out.bind (match hold E1 i with
    | some d => (match f d ds with | some (d', r) => .ok (.sh r) (putH E1 i d') | none => .stuck)
    | none => .stuck) k) r P) : Ref ((eOwn i isLst f m E).bind k) (lR s r) P := by
  unfold lR
  by_cases hs : isLst s = true
  · rw [if_pos hs]
    have : eOwn i isLst f m E = (m E).bind fun ds E1 => (match hold E1 i with
    | some d => (match f d ds with | some (d', r) => .ok (.sh r) (putH E1 i d') | none => .stuck)
    | none => .stuck) := by
      unfold eOwn
      rw [own_hold hE hA (lst_mut hs)]
      exact if_pos hs
    rw [this]
    exact Ref.assoc (h hs)
  · rw [if_neg hs]
    trivial
theorem r_own (hE : EA A E) (hA : A[i]? = some (.own s)) (hs : isLst s = true) (hd : ds = ds') (h : ∀ p E', EA (A.set i (.own p.2)) E' → Ref (k (.sh p.1) E') (rest p) P) : Ref (Out.bind (match hold E i with
    | some d => (match f d ds with | some (d', r) => .ok (.sh r) (putH E i d') | none => .stuck)
    | none => .stuck) k) ((rOwn f s ds').bind rest) P := by
  rw [own_hold hE (.inl hA) (lst_mut hs), hd]
  unfold rOwn
  show Ref (Out.bind (match f s ds' with | some (d', r) => .ok (.sh r) (putH E i d') | none => .stuck) k) _ P
  cases f s ds' with
  | none => trivial
  | some p =>
    show Ref _ ((bR p.1 (.ok (p.2, p.1))).bind rest) P
    unfold bR
    by_cases hm : isMut p.1 = true
    · rw [if_pos hm]
      exact h (p.2, p.1) _ (own_put p.1 hE hA (lst_mut hs) hm)
    · rw [if_neg hm]
      trivial
theorem r_ownB (hE : EA A E) (hA : A[i]? = some (.bo s)) (hs : isLst s = true) (hd : ds = ds') (h : ∀ p E', EA (A.set i (.bo p.2)) E' → Ref (k (.sh p.1) E') (rest p) P) : Ref (Out.bind (match hold E i with
    | some d => (match f d ds with | some (d', r) => .ok (.sh r) (putH E i d') | none => .stuck)
    | none => .stuck) k) ((rOwn f s ds').bind rest) P := by
  rw [own_hold hE (.inr hA) (lst_mut hs), hd]
  unfold rOwn
  show Ref (Out.bind (match f s ds' with | some (d', r) => .ok (.sh r) (putH E i d') | none => .stuck) k) _ P
  cases f s ds' with
  | none => trivial
  | some p =>
    show Ref _ ((bR p.1 (.ok (p.2, p.1))).bind rest) P
    unfold bR
    by_cases hm : isMut p.1 = true
    · rw [if_pos hm]
      exact h (p.2, p.1) _ (bo_put p.1 hE hA)
    · rw [if_neg hm]
      trivial
end
theorem ix_lst (xs : List D) (j : Int) : fIx (.lst xs) (.int j) = (atI xs j).map .sh := rfl
/-- one step apart -/
theorem r_sub {o : Out RV} {rest : δ → Res γ} {K : δ → RK} {A2 : δ → List SA} {ra : Res δ} (h1 : Ref o ra fun c R E' => (K c).ok R ∧ EA (A2 c) E') (h : ∀ c R E', (K c).ok R → EA (A2 c) E' → Ref (k R E') (rest c) P) : Ref (o.bind k) (ra.bind rest) P :=
  h1.bind fun c R E' q => h c R E' q.1 q.2
theorem ref_split {Y : Type} {o : Out Y} {r : Res δ} {Q : δ → Y → Ev → Prop} {s : D} (hE : EA A E) (hA : A[i]? = some (.val s)) (h1 : EA (A.set i (.own s)) E → Ref o r Q) (h2 : EA (A.set i (.sh s)) E → Ref o r Q) : Ref o r Q := by
  obtain ⟨sl, e, q⟩ := hE.get hA
  rcases q with q | q
  · exact h2 (hE.setA (a := .sh s) q i e)
  · exact h1 (hE.setA (a := .own s) (.inl q) i e)
/-- x[j] of a slot that is changed -/
theorem ref_ixO {s : D} {rj : Res D} (hE : EA A E) (hA : A[i]? = some (.own s)) (hb : ∀ E, EA A E → Ref (mb E) rj fun d R E' => R.d = d ∧ EA A2 E') (hA2 : A2[i]? = some (.own s)) :
    Ref (eAlt (isOwn i) (eIxO i mb) (e2 fIx (eV i) mb) E) (rj.bind fun j => r2 fIx s j) (fun d R E' => (RK.sh d).ok R ∧ EA A2 E') := by
  unfold eAlt
  by_cases hm : isMut s = true
  · have ho := own_hold hE (.inl hA) hm
    have : isOwn i E = true := by unfold isOwn; rw [ho]; rfl
    rw [if_pos this]
    unfold eIxO
    rw [ho]
    refine (hb E hE).bind fun j R E' q => ?_
    rw [own_hold q.2 (.inl hA2) hm, q.1]
    cases s with
    | lst xs =>
      cases j with
      | int j =>
        unfold r2
        rw [ix_lst]
        show Ref (match atI xs j with | some d => Out.ok (RV.sh d) E' | none => .stuck) _ _
        cases atI xs j with
        | none => trivial
        | some d => exact ⟨_, E', rfl, rfl, q.2⟩
      | _ => trivial
    | _ =>
      first
      | (cases j <;> exact True.intro)
      | cases hm
  · have hsl : E[i]? = some (.sh s) := by
      obtain ⟨sl, e, q⟩ := hE.get hA
      rcases q with ⟨q, hm'⟩ | q
      · exact absurd hm' hm
      · rw [e, q.1]
    have : isOwn i E = false := by unfold isOwn hold; rw [hsl]; rfl
    rw [this]
    have ev : eV i E = .ok (.sh s) E := by unfold eV; rw [hsl]
    show Ref (e2 fIx (eV i) mb E) _ _
    unfold e2
    rw [ev]
    refine (hb E hE).bind fun j R E' q => ?_
    show Ref (liftO (fIx s R.d) E') _ _
    rw [q.1]
    unfold r2
    cases e : fIx s j with
    | none => trivial
    | some R2 => exact ⟨R2, E', rfl, sh_ix _ _ _ e, q.2⟩
theorem ref_ixS {s : D} {rj : Res D} (hE : EA A E) (hA : A[i]? = some (.sh s)) (hb : ∀ E, EA A E → Ref (mb E) rj fun d R E' => R.d = d ∧ EA A2 E') :
    Ref (eAlt (isOwn i) (eIxO i mb) (e2 fIx (eV i) mb) E) (rj.bind fun j => r2 fIx s j) (fun d R E' => (RK.sh d).ok R ∧ EA A2 E') := by
  obtain ⟨sl, e, q⟩ := hE.get hA
  have hsl : E[i]? = some (.sh s) := by rw [e]; exact congrArg some q
  have : isOwn i E = false := by unfold isOwn hold; rw [hsl]; rfl
  unfold eAlt
  rw [this]
  have ev : eV i E = .ok (.sh s) E := by unfold eV; rw [hsl]
  show Ref (e2 fIx (eV i) mb E) _ _
  unfold e2
  rw [ev]
  refine (hb E hE).bind fun j R E' q => ?_
  show Ref (liftO (fIx s R.d) E') _ _
  rw [q.1]
  unfold r2
  cases e : fIx s j with
  | none => trivial
  | some R2 => exact ⟨R2, E', rfl, sh_ix _ _ _ e, q.2⟩
theorem ref_ixB {s : D} {rj : Res D} (hE : EA A E) (hA : A[i]? = some (.bo s)) (hb : ∀ E, EA A E → Ref (mb E) rj fun d R E' => R.d = d ∧ EA A2 E') (hA2 : A2[i]? = some (.bo s)) :
    Ref (eIxO i mb E) (bR s (rj.bind fun j => r2 fIx s j)) (fun d R E' => (RK.sh d).ok R ∧ EA A2 E') := by
  unfold bR
  by_cases hm : isMut s = true
  · rw [if_pos hm]
    have ho := own_hold hE (.inr hA) hm
    unfold eIxO
    rw [ho]
    refine (hb E hE).bind fun j R E' q => ?_
    rw [own_hold q.2 (.inr hA2) hm, q.1]
    cases s with
    | lst xs =>
      cases j with
      | int j =>
        unfold r2
        rw [ix_lst]
        show Ref (match atI xs j with | some d => Out.ok (RV.sh d) E' | none => .stuck) _ _
        cases atI xs j with
        | none => trivial
        | some d => exact ⟨_, E', rfl, rfl, q.2⟩
      | _ => trivial
    | _ =>
      first
      | (cases j <;> exact True.intro)
      | cases hm
  · rw [if_neg hm]
    trivial
/-- len of a slot that is changed -/
theorem r_lenA {s : D} {rest : D → Res γ} (hE : EA A E) (hA : A[i]? = some (.own s)) (h : ∀ d E', EA (A.set i (.own s)) E' → Ref (k (.sh d) E') (rest d) P) : Ref ((eAlt (isOwn i) (eLenO i) (eN fLen (aCons (eV i) aNil)) E).bind k) ((rN fLen [s]).bind rest) P := by
  obtain ⟨sl, e, q⟩ := hE.get hA
  rcases q with ⟨q, hm⟩ | ⟨q, hm⟩
  · subst q
    have ho : hold E i = some s := by unfold hold; rw [e]
    have hi : isOwn i E = true := by unfold isOwn; rw [ho]; rfl
    have hE' := hE.setA (a := .own s) (.inl ⟨rfl, hm⟩) i e
    unfold eAlt
    rw [if_pos hi]
    cases s with
    | lst xs =>
      have : eLenO i E = .ok (.sh (.int xs.length)) E := by unfold eLenO; rw [ho]
      rw [this]
      exact h _ E hE'
    | dic _ => exact True.intro
    | obj _ _ => exact True.intro
    | _ => cases hm
  · subst q
    have hi : isOwn i E = false := by unfold isOwn hold; rw [e]; rfl
    have hE' := hE.setA (a := .own s) (.inr ⟨rfl, hm⟩) i e
    unfold eAlt
    rw [hi]
    have ev : eV i E = .ok (.sh s) E := by unfold eV; rw [e]
    have : eN fLen (aCons (eV i) aNil) E = liftO (fLen [s]) E := by
      unfold eN aCons aNil
      rw [ev]
      rfl
    show Ref ((eN fLen (aCons (eV i) aNil) E).bind k) _ P
    rw [this]
    unfold rN
    cases e : fLen [s] with
    | none => trivial
    | some R =>
      show Ref (k R E) _ P
      rw [sh_len _ _ e]
      exact h _ E hE'
theorem r_lenV {s : D} {rest : D → Res γ} (hE : EA A E) (hA : A[i]? = some (.val s) ∨ A[i]? = some (.sh s)) (h : ∀ d E', EA (A.set i (.val s)) E' → Ref (k (.sh d) E') (rest d) P) : Ref ((eAlt (isOwn i) (eLenO i) (eN fLen (aCons (eV i) aNil)) E).bind k) ((rN fLen [s]).bind rest) P := by
  have hs : ∃ sl, E[i]? = some sl ∧ (sl = .sh s ∨ (sl = .ow s ∧ isMut s = true)) := by
    rcases hA with hA | hA
    · exact hE.get hA
    · obtain ⟨sl, e, q⟩ := hE.get hA
      exact ⟨sl, e, .inl q⟩
  obtain ⟨sl, e, q⟩ := hs
  rcases q with q | ⟨q, hm⟩
  · subst q
    have hi : isOwn i E = false := by unfold isOwn hold; rw [e]; rfl
    have hE' := hE.setA (a := .val s) (.inl rfl) i e
    unfold eAlt
    rw [hi]
    have ev : eV i E = .ok (.sh s) E := by unfold eV; rw [e]
    have : eN fLen (aCons (eV i) aNil) E = liftO (fLen [s]) E := by
      unfold eN aCons aNil
      rw [ev]
      rfl
    show Ref ((eN fLen (aCons (eV i) aNil) E).bind k) _ P
    rw [this]
    unfold rN
    cases e : fLen [s] with
    | none => trivial
    | some R =>
      show Ref (k R E) _ P
      rw [sh_len _ _ e]
      exact h _ E hE'
  · subst q
    have ho : hold E i = some s := by unfold hold; rw [e]
    have hi : isOwn i E = true := by unfold isOwn; rw [ho]; rfl
    have hE' := hE.setA (a := .val s) (.inr ⟨rfl, hm⟩) i e
    unfold eAlt
    rw [if_pos hi]
    cases s with
    | lst xs =>
      have : eLenO i E = .ok (.sh (.int xs.length)) E := by unfold eLenO; rw [ho]
      rw [this]
      exact h _ E hE'
    | dic _ => exact True.intro
    | obj _ _ => exact True.intro
    | _ => cases hm
end
end MM

/-! MM: the rules by which a mirror is shown: calls, walks, statements, defs. -/
namespace MM
open PySem PySem.Spec PyProof.Rows L2
section
variable {X γ δ σ ρ : Type} {r : Res γ} {P : γ → X → Ev → Prop} {A A2 : List SA} {E : Ev} {i j n : Nat} {d a b c : D} {k : RV → Ev → Out X} {ma mb mc : M RV} {R Ra Rb : RV}
/-! ### calls -/
def cG (n : Nat) (f : List D → FO) (ds : List D) (E : Ev) : Out RV := if ds.length = n then goF (f ds) E else .stuck
def cLG (n : Nat) (T : Nat → Option (List D → FO)) (a : D) (ds : List D) (E : Ev) : Out RV := if ds.length = n then (match a with
  | .gl c => (match T c with
    | some g => goF (g ds) E
    | none => .stuck)
  | _ => .stuck) else .stuck
def cBG (n i : Nat) (f : D → List D → FB) (ds : List D) (E : Ev) : Out RV := if ds.length + 1 = n then (match E[i]? with
  | some (.ow d) => goB i .ow (f d ds) E
  | some (.bo d) => goB i .bo (f d ds) E
  | _ => .stuck) else .stuck
theorem r_call {f : List D → FO} {m : M (List D)} (h : Ref ((m E).bind fun ds E1 => (cG n f ds E1).bind k) r P) : Ref ((eCall n f m E).bind k) r P := Ref.assoc h
theorem r_cgo {f : List D → FO} {ds ds' : List D} {Fr : Res D} {K : D → RK} {rest : D → Res γ} (hd : ds = ds') (hn : ds'.length = n) (hL : FOk (f ds') Fr K) (h : ∀ d R, (K d).ok R → Ref (k R E) (rest d) P) : Ref ((cG n f ds E).bind k) (Fr.bind rest) P := by
  unfold cG
  rw [hd, if_pos hn]
  cases Fr with
  | ok d =>
    obtain ⟨R, e, q⟩ := hL
    rw [e]
    exact h d R q
  | ex x =>
    have e : f ds' = .ex x := hL
    rw [e]
    exact ⟨E, rfl⟩
  | stuck => trivial
/-- by a slot that holds a def -/
theorem r_callL {T : Nat → Option (List D → FO)} {m : M (List D)} (hE : EA A E) (hA : A[i]? = some (.sh a)) (h : Ref ((m E).bind fun ds E1 => (cLG n T a ds E1).bind k) r P) : Ref ((eCallL n i T m E).bind k) (glR T a r) P := by
  obtain ⟨sl, e, q⟩ := hE.get hA
  have q : sl = .sh a := q
  subst q
  unfold eCallL glR
  rw [e]
  cases a with
  | gl c =>
    show Ref (Out.bind (match T c with
    | some g => (m E).bind fun ds E1 => if ds.length = n then goF (g ds) E1 else .stuck
    | none => .stuck) k) (match T c with
    | some _ => r
    | none => .stuck) P
    cases hT : T c with
    | none => trivial
    | some g =>
      refine Ref.assoc ?_
      unfold cLG at h
      simp only [hT] at h
      exact h
  | _ => trivial
theorem r_goL {T : Nat → Option (List D → FO)} {ds ds' : List D} {rest : D → Res γ} (hd : ds = ds') (hn : ds'.length = n) (h : ∀ d R, R.d = d → Ref (k R E) (rest d) P) : Ref ((cLG n T a ds E).bind k) ((callL T a ds').bind rest) P := by
  unfold cLG
  rw [hd, if_pos hn]
  unfold callL
  cases a with
  | gl c =>
    show Ref (Out.bind (match T c with
    | some g => goF (g ds') E
    | none => .stuck) k) ((match T c with
    | some g => foR (g ds')
    | none => .stuck).bind rest) P
    cases T c with
    | none => trivial
    | some g =>
      show Ref (Out.bind (goF (g ds') E) k) ((foR (g ds')).bind rest) P
      cases g ds' with
      | ok R => exact h _ R rfl
      | ex x => exact ⟨E, rfl⟩
      | stuck => trivial
  | _ => trivial
/-- with a slot that the def changes -/
theorem r_callB {f : D → List D → FB} {m : M (List D)} {s : D} (hE : EA A E) (hA : A[i]? = some (.own s)) (h : isMut s = true → Ref ((m E).bind fun ds E1 => (cBG n i f ds E1).bind k) r P) : Ref ((eCallB n i f m E).bind k) (bR s r) P := by
  unfold bR
  by_cases hm : isMut s = true
  · rw [if_pos hm]
    have : ownAt E i = true := by unfold ownAt; rw [own_mut hE hA hm]; rfl
    unfold eCallB
    rw [if_pos this]
    exact Ref.assoc (h hm)
  · rw [if_neg hm]
    trivial
theorem r_callBB {f : D → List D → FB} {m : M (List D)} {s : D} (hE : EA A E) (hA : A[i]? = some (.bo s)) (h : Ref ((m E).bind fun ds E1 => (cBG n i f ds E1).bind k) r P) : Ref ((eCallB n i f m E).bind k) r P := by
  have : ownAt E i = true := by unfold ownAt; rw [bo_at hE hA]; rfl
  unfold eCallB
  rw [if_pos this]
  exact Ref.assoc h
theorem r_goB {f : D → List D → FB} {ds ds' : List D} {s : D} {Fr : Res (D × D)} {K : D → RK} {rest : D × D → Res γ} (hE : EA A E) (hA : A[i]? = some (.own s)) (hm : isMut s = true) (hd : ds = ds') (hn : ds'.length + 1 = n) (hL : FBk (f s ds') Fr K) (h : ∀ p R E', (K p.1).ok R → EA (A.set i (.own p.2)) E' → Ref (k R E') (rest p) P) :
    Ref ((cBG n i f ds E).bind k) (Fr.bind fun p => bR p.2 (rest p)) P := by
  unfold cBG
  rw [hd, if_pos hn, own_mut hE hA hm]
  show Ref ((goB i .ow (f s ds') E).bind k) _ P
  cases Fr with
  | ok p =>
    obtain ⟨R, e, q⟩ := hL
    rw [e]
    show Ref (k R (E.set i (.ow p.2))) (bR p.2 (rest p)) P
    unfold bR
    by_cases hp : isMut p.2 = true
    · rw [if_pos hp]
      exact h p R _ q (hE.set (a := .own p.2) (.inl ⟨rfl, hp⟩) i)
    · rw [if_neg hp]
      trivial
  | ex x =>
    obtain ⟨d, e⟩ := hL
    rw [e]
    exact ⟨_, rfl⟩
  | stuck => trivial
theorem r_goBB {f : D → List D → FB} {ds ds' : List D} {s : D} {Fr : Res (D × D)} {K : D → RK} {rest : D × D → Res γ} (hE : EA A E) (hA : A[i]? = some (.bo s)) (hd : ds = ds') (hn : ds'.length + 1 = n) (hL : FBk (f s ds') Fr K) (h : ∀ p R E', (K p.1).ok R → EA (A.set i (.bo p.2)) E' → Ref (k R E') (rest p) P) :
    Ref ((cBG n i f ds E).bind k) (Fr.bind rest) P := by
  unfold cBG
  rw [hd, if_pos hn, bo_at hE hA]
  show Ref ((goB i .bo (f s ds') E).bind k) _ P
  cases Fr with
  | ok p =>
    obtain ⟨R, e, q⟩ := hL
    rw [e]
    exact h p R _ q (hE.set (a := .bo p.2) rfl i)
  | ex x =>
    obtain ⟨d, e⟩ := hL
    rw [e]
    exact ⟨_, rfl⟩
  | stuck => trivial
/-! ### walks -/
theorem r_iV {k : List D → Ev → Out X} {f : D → Option (List D)} (h : Ref ((ma E).bind fun a E1 => (liftL (f a.d) E1).bind k) r P) : Ref ((iV f ma E).bind k) r P := by
  refine Ref.assoc ?_
  exact h
theorem r_opL {k : List D → Ev → Out X} {f : D → Option (List D)} {rest : List D → Res γ} (ha : Ra.d = a) (h : ∀ l, Ref (k l E) (rest l) P) : Ref ((liftL (f Ra.d) E).bind k) ((rL f a).bind rest) P := by
  rw [ha]
  unfold rL
  cases f a with
  | none => trivial
  | some l => exact h l
theorem r_iN {k : List D → Ev → Out X} {f : List D → Option (List D)} {m : M (List D)} (h : Ref ((m E).bind fun ds E1 => (liftL (f ds) E1).bind k) r P) : Ref ((iN f m E).bind k) r P := by
  refine Ref.assoc ?_
  exact h
theorem r_opLN {k : List D → Ev → Out X} {f : List D → Option (List D)} {rest : List D → Res γ} {ds ds' : List D} (hd : ds = ds') (h : ∀ l, Ref (k l E) (rest l) P) : Ref ((liftL (f ds) E).bind k) ((rLN f ds').bind rest) P := by
  rw [hd]
  unfold rLN
  cases f ds' with
  | none => trivial
  | some l => exact h l
/-! ### targets -/
def stepG (g : Tgt) (body : Ev → Out X) (x : D) (E : Ev) : Out X := match g x E with
  | some E1 => body E1
  | none => .stuck
theorem r_gNm {body : Ev → Out X} {x : D} (h : Ref (body (E.set i (.sh x))) r P) : Ref (stepG (gNm i) body x E) r P := h
theorem gs_len : ∀ {gs : Tgts} {x : D} {n : Nat} {body : Ev → Out X}, stepG (gTp n gs) body x E = match x with
  | .tup ds => if ds.length = n then (match gs ds E with | some E1 => body E1 | none => .stuck) else .stuck
  | _ => .stuck := fun {gs x n body} => by
  unfold stepG gTp
  cases x with
  | tup ds =>
    show (match (if ds.length = n then gs ds E else none) with | some E1 => body E1 | none => .stuck) = if ds.length = n then (match gs ds E with | some E1 => body E1 | none => .stuck) else .stuck
    by_cases hl : ds.length = n
    · rw [if_pos hl, if_pos hl]
    · rw [if_neg hl, if_neg hl]
  | _ => rfl
theorem r_g1 {g1 : Tgt} {body : Ev → Out X} {x : D} {kk : D → Res γ} (h : ∀ a, Ref (stepG g1 body a E) (kk a) P) : Ref (stepG (gTp 1 (gsCons g1 gsNil)) body x E) (un1 x kk) P := by
  rw [gs_len]
  cases x with
  | tup ds =>
    by_cases hl : ds.length = 1
    · obtain ⟨a, rfl⟩ : ∃ a, ds = [a] := by
        match ds, hl with
        | [a], _ => exact ⟨a, rfl⟩
      show Ref (if [a].length = 1 then (match (gsCons g1 gsNil) [a] E with | some E1 => body E1 | none => .stuck) else .stuck) (kk a) P
      rw [if_pos hl]
      have e : (match (gsCons g1 gsNil) [a] E with | some E1 => body E1 | none => .stuck) = stepG g1 body a E := by
        show (match ((g1 a E).bind fun E1 => gsNil [] E1) with | some E1 => body E1 | none => .stuck) = (match g1 a E with | some E1 => body E1 | none => .stuck)
        cases g1 a E <;> rfl
      rw [e]
      exact h a
    · have e : un1 (.tup ds) kk = .stuck := by
        unfold un1
        split
        · rename_i z
          injection z with z
          subst z
          exact absurd rfl hl
        · rfl
      rw [e]
      trivial
  | _ => exact True.intro
theorem r_g2 {g1 g2 : Tgt} {body : Ev → Out X} {x : D} {kk : D → D → Res γ} (h : ∀ a b, Ref (stepG g1 (stepG g2 body b) a E) (kk a b) P) : Ref (stepG (gTp 2 (gsCons g1 (gsCons g2 gsNil))) body x E) (un2 x kk) P := by
  rw [gs_len]
  cases x with
  | tup ds =>
    by_cases hl : ds.length = 2
    · obtain ⟨a, b, rfl⟩ : ∃ a b, ds = [a, b] := by
        match ds, hl with
        | [a, b], _ => exact ⟨a, b, rfl⟩
      show Ref (if [a, b].length = 2 then (match (gsCons g1 (gsCons g2 gsNil)) [a, b] E with | some E1 => body E1 | none => .stuck) else .stuck) (kk a b) P
      rw [if_pos hl]
      have e : (match (gsCons g1 (gsCons g2 gsNil)) [a, b] E with | some E1 => body E1 | none => .stuck) = stepG g1 (stepG g2 body b) a E := by
        show (match ((g1 a E).bind fun E1 => (g2 b E1).bind fun E2 => gsNil [] E2) with | some E1 => body E1 | none => .stuck) = (match g1 a E with | some E1 => (match g2 b E1 with | some E1 => body E1 | none => .stuck) | none => .stuck)
        cases g1 a E with
        | none => rfl
        | some E1 =>
          show (match ((g2 b E1).bind fun E2 => gsNil [] E2) with | some E1 => body E1 | none => .stuck) = (match g2 b E1 with | some E1 => body E1 | none => .stuck)
          cases g2 b E1 <;> rfl
      rw [e]
      exact h a b
    · have e : un2 (.tup ds) kk = .stuck := by
        unfold un2
        split
        · rename_i z
          injection z with z
          subst z
          exact absurd rfl hl
        · rfl
      rw [e]
      trivial
  | _ => exact True.intro
theorem r_g3 {g1 g2 g3 : Tgt} {body : Ev → Out X} {x : D} {kk : D → D → D → Res γ} (h : ∀ a b c, Ref (stepG g1 (stepG g2 (stepG g3 body c) b) a E) (kk a b c) P) : Ref (stepG (gTp 3 (gsCons g1 (gsCons g2 (gsCons g3 gsNil)))) body x E) (un3 x kk) P := by
  rw [gs_len]
  cases x with
  | tup ds =>
    by_cases hl : ds.length = 3
    · obtain ⟨a, b, c, rfl⟩ : ∃ a b c, ds = [a, b, c] := by
        match ds, hl with
        | [a, b, c], _ => exact ⟨a, b, c, rfl⟩
      show Ref (if [a, b, c].length = 3 then (match (gsCons g1 (gsCons g2 (gsCons g3 gsNil))) [a, b, c] E with | some E1 => body E1 | none => .stuck) else .stuck) (kk a b c) P
      rw [if_pos hl]
      have e : (match (gsCons g1 (gsCons g2 (gsCons g3 gsNil))) [a, b, c] E with | some E1 => body E1 | none => .stuck) = stepG g1 (stepG g2 (stepG g3 body c) b) a E := by
        show (match ((g1 a E).bind fun E1 => (g2 b E1).bind fun E2 => (g3 c E2).bind fun E3 => gsNil [] E3) with | some E1 => body E1 | none => .stuck) = (match g1 a E with | some E1 => (match g2 b E1 with | some E1 => (match g3 c E1 with | some E1 => body E1 | none => .stuck) | none => .stuck) | none => .stuck)
        cases g1 a E with
        | none => rfl
        | some E1 =>
          show (match ((g2 b E1).bind fun E2 => (g3 c E2).bind fun E3 => gsNil [] E3) with | some E1 => body E1 | none => .stuck) = (match g2 b E1 with | some E1 => (match g3 c E1 with | some E1 => body E1 | none => .stuck) | none => .stuck)
          cases g2 b E1 with
          | none => rfl
          | some E1 =>
            show (match ((g3 c E1).bind fun E3 => gsNil [] E3) with | some E1 => body E1 | none => .stuck) = (match g3 c E1 with | some E1 => body E1 | none => .stuck)
            cases g3 c E1 <;> rfl
      rw [e]
      exact h a b c
    · have e : un3 (.tup ds) kk = .stuck := by
        unfold un3
        split
        · rename_i z
          injection z with z
          subst z
          exact absurd rfl hl
        · rfl
      rw [e]
      trivial
  | _ => exact True.intro
theorem r_g4 {g1 g2 g3 g4 : Tgt} {body : Ev → Out X} {x : D} {kk : D → D → D → D → Res γ} (h : ∀ a b c e, Ref (stepG g1 (stepG g2 (stepG g3 (stepG g4 body e) c) b) a E) (kk a b c e) P) : Ref (stepG (gTp 4 (gsCons g1 (gsCons g2 (gsCons g3 (gsCons g4 gsNil))))) body x E) (un4 x kk) P := by
  rw [gs_len]
  cases x with
  | tup ds =>
    by_cases hl : ds.length = 4
    · obtain ⟨a, b, c, e, rfl⟩ : ∃ a b c e, ds = [a, b, c, e] := by
        match ds, hl with
        | [a, b, c, e], _ => exact ⟨a, b, c, e, rfl⟩
      show Ref (if [a, b, c, e].length = 4 then (match (gsCons g1 (gsCons g2 (gsCons g3 (gsCons g4 gsNil)))) [a, b, c, e] E with | some E1 => body E1 | none => .stuck) else .stuck) (kk a b c e) P
      rw [if_pos hl]
      have ee : (match (gsCons g1 (gsCons g2 (gsCons g3 (gsCons g4 gsNil)))) [a, b, c, e] E with | some E1 => body E1 | none => .stuck) = stepG g1 (stepG g2 (stepG g3 (stepG g4 body e) c) b) a E := by
        show (match ((g1 a E).bind fun E1 => (g2 b E1).bind fun E2 => (g3 c E2).bind fun E3 => (g4 e E3).bind fun E4 => gsNil [] E4) with | some E1 => body E1 | none => .stuck) = (match g1 a E with | some E1 => (match g2 b E1 with | some E1 => (match g3 c E1 with | some E1 => (match g4 e E1 with | some E1 => body E1 | none => .stuck) | none => .stuck) | none => .stuck) | none => .stuck)
        cases g1 a E with
        | none => rfl
        | some E1 =>
          show (match ((g2 b E1).bind fun E2 => (g3 c E2).bind fun E3 => (g4 e E3).bind fun E4 => gsNil [] E4) with | some E1 => body E1 | none => .stuck) = (match g2 b E1 with | some E1 => (match g3 c E1 with | some E1 => (match g4 e E1 with | some E1 => body E1 | none => .stuck) | none => .stuck) | none => .stuck)
          cases g2 b E1 with
          | none => rfl
          | some E1 =>
            show (match ((g3 c E1).bind fun E3 => (g4 e E3).bind fun E4 => gsNil [] E4) with | some E1 => body E1 | none => .stuck) = (match g3 c E1 with | some E1 => (match g4 e E1 with | some E1 => body E1 | none => .stuck) | none => .stuck)
            cases g3 c E1 with
            | none => rfl
            | some E1 =>
              show (match ((g4 e E1).bind fun E4 => gsNil [] E4) with | some E1 => body E1 | none => .stuck) = (match g4 e E1 with | some E1 => body E1 | none => .stuck)
              cases g4 e E1 <;> rfl
      rw [ee]
      exact h a b c e
    · have e : un4 (.tup ds) kk = .stuck := by
        unfold un4
        split
        · rename_i z
          injection z with z
          subst z
          exact absurd rfl hl
        · rfl
      rw [e]
      trivial
  | _ => exact True.intro
/-! ### comprehensions -/
/-- one turn: the item, if it is taken -/
def lcS (g : Tgt) (mt : M Bool) (me : M RV) (x : D) (E : Ev) : Out (Option D) := stepG g (fun E1 => (mt E1).bind fun t E2 => if t = true then (me E2).bind fun r E3 => .ok (some r.d) E3 else .ok none E2) x E
theorem lcS_go {g : Tgt} {mt : M Bool} {me : M RV} {vs : List Nat} {x : D} {xs acc : List D} {E : Ev} : lcL g mt me vs (x :: xs) E acc = match lcS g mt me x E with
  | .ok (some y) E3 => if acc.length < sizeLine then lcL g mt me vs xs (wipeE E3 vs) (acc ++ [y]) else .stuck
  | .ok none E2 => lcL g mt me vs xs (wipeE E2 vs) acc
  | _ => .stuck := by
  conv => lhs; unfold lcL
  unfold lcS stepG
  cases g x E with
  | none => rfl
  | some E1 =>
    dsimp only
    cases mt E1 with
    | ok t E2 =>
      cases t with
      | true =>
        show (match me E2 with | .ok r E3 => (if acc.length < sizeLine then lcL g mt me vs xs (wipeE E3 vs) (acc ++ [r.d]) else .stuck) | _ => .stuck) = (match ((me E2).bind fun r E3 => Out.ok (some r.d) E3) with
          | .ok (some y) E3 => if acc.length < sizeLine then lcL g mt me vs xs (wipeE E3 vs) (acc ++ [y]) else .stuck
          | .ok none E2 => lcL g mt me vs xs (wipeE E2 vs) acc
          | _ => .stuck)
        cases me E2 <;> rfl
      | false => rfl
    | ex _ _ => rfl
    | stuck => rfl
theorem comp_len {f : D → Res (Option D)} : ∀ {xs l : List D}, compGo f xs = .ok l → l.length ≤ xs.length
  | [], l, h => by cases h; exact Nat.le_refl _
  | x :: xs, l, h => by
    unfold compGo at h
    split at h
    · cases e : compGo f xs with
      | ok l' =>
        rw [e] at h
        have h : Res.ok (_ :: l') = Res.ok l := h
        cases h
        have := comp_len e
        rw [List.length_cons, List.length_cons]
        omega
      | ex x => rw [e] at h; cases h
      | stuck => rw [e] at h; cases h
    · have := comp_len h
      rw [List.length_cons]
      omega
    · cases h
theorem comp_go {g : Tgt} {mt : M Bool} {me : M RV} {vs : List Nat} {f : D → Res (Option D)} (hb : ∀ x E, EA A E → Ref (lcS g mt me x E) (f x) fun o y E' => y = o ∧ EA A (wipeE E' vs)) :
    ∀ (xs acc l : List D) (E : Ev), EA A E → compGo f xs = .ok l → acc.length + l.length ≤ sizeLine → ∃ E', lcL g mt me vs xs E acc = .ok (acc ++ l) E' ∧ EA A E'
  | [], acc, l, E, hE, h, _ => by
    cases h
    exact ⟨E, by rw [List.append_nil]; rfl, hE⟩
  | x :: xs, acc, l, E, hE, h, hl => by
    rw [lcS_go]
    unfold compGo at h
    have hx := hb x E hE
    split at h
    · rename_i y e
      rw [e] at hx
      obtain ⟨z, E3, e2, rfl, q⟩ := hx
      cases e3 : compGo f xs with
      | ok l' =>
        rw [e3] at h
        have h : Res.ok (y :: l') = Res.ok l := h
        cases h
        rw [List.length_cons] at hl
        obtain ⟨E', h1, h2⟩ := comp_go hb xs (acc ++ [y]) l' _ q e3 (by rw [List.length_append, List.length_singleton]; omega)
        refine ⟨E', ?_, h2⟩
        rw [e2]
        show (if acc.length < sizeLine then lcL g mt me vs xs (wipeE E3 vs) (acc ++ [y]) else .stuck) = _
        rw [if_pos (by omega), h1, List.append_assoc]
        rfl
      | ex x => rw [e3] at h; cases h
      | stuck => rw [e3] at h; cases h
    · rename_i e
      rw [e] at hx
      obtain ⟨z, E3, e2, rfl, q⟩ := hx
      obtain ⟨E', h1, h2⟩ := comp_go hb xs acc l _ q h hl
      refine ⟨E', ?_, h2⟩
      rw [e2]
      exact h1
    · cases h
theorem r_lc {mi : M (List D)} {g : Tgt} {mt : M Bool} {me : M RV} {vs : List Nat} (h : Ref ((mi E).bind fun ds E1 => ((lcL g mt me vs ds (wipeE E1 vs) []).bind fun acc E2 => .ok (RV.fr (.lst acc)) (restE E1 vs E2)).bind k) r P) : Ref ((eLc mi g mt me vs E).bind k) r P := Ref.assoc h
theorem r_comp {g : Tgt} {mt : M Bool} {me : M RV} {vs : List Nat} {f : D → Res (Option D)} {xs : List D} {E1 : Ev} {Ai : List SA} {rest : List D → Res γ} {fE : Ev → Ev} (hW : EA Ai (wipeE E1 vs)) (hb : ∀ x E, EA Ai E → Ref (lcS g mt me x E) (f x) fun o y E' => y = o ∧ EA Ai (wipeE E' vs))
    (hR : ∀ E2, EA Ai E2 → EA A2 (fE E2)) (h : ∀ l E', EA A2 E' → Ref (k (.fr (.lst l)) E') (rest l) P) : Ref (((lcL g mt me vs xs (wipeE E1 vs) []).bind fun acc E2 => .ok (RV.fr (.lst acc)) (fE E2)).bind k) ((compR f xs).bind rest) P := by
  unfold compR szL
  cases e : compGo f xs with
  | ok l =>
    by_cases hl : l.length ≤ sizeLine
    · obtain ⟨E', h1, h2⟩ := comp_go hb xs [] l _ hW e (by rw [List.length_nil, Nat.zero_add]; exact hl)
      rw [h1]
      show Ref (k _ _) (((if l.length ≤ sizeLine then Res.ok l else .stuck) : Res (List D)).bind rest) P
      rw [if_pos hl]
      exact h _ _ (hR _ h2)
    · show Ref _ (((if l.length ≤ sizeLine then Res.ok l else .stuck) : Res (List D)).bind rest) P
      rw [if_neg hl]
      trivial
  | ex x =>
    exfalso
    have : ∀ (xs : List D) (x : Xc), compGo f xs ≠ .ex x := fun xs => by
      induction xs with
      | nil => intro x h; cases h
      | cons y ys ih =>
        intro x h
        unfold compGo at h
        split at h
        · cases e : compGo f ys with
          | ok l => rw [e] at h; cases h
          | ex z => exact ih z e
          | stuck => rw [e] at h; cases h
        · exact ih x h
        · cases h
    exact this xs x e
  | stuck => trivial
theorem map_as_comp {f : D → Res D} : ∀ xs : List D, mapGo f xs = compGo (fun x => (f x).bind fun y => .ok (some y)) xs
  | [] => rfl
  | x :: xs => by
    unfold mapGo compGo
    rw [map_as_comp xs]
    cases f x <;> rfl
theorem r_map {g : Tgt} {me : M RV} {vs : List Nat} {f : D → Res D} {xs : List D} {E1 : Ev} {Ai : List SA} {rest : List D → Res γ} {fE : Ev → Ev} (hW : EA Ai (wipeE E1 vs)) (hb : ∀ x E, EA Ai E → Ref (stepG g me x E) (f x) fun d R E' => R.d = d ∧ EA Ai (wipeE E' vs))
    (hR : ∀ E2, EA Ai E2 → EA A2 (fE E2)) (h : ∀ l E', EA A2 E' → Ref (k (.fr (.lst l)) E') (rest l) P) : Ref (((lcL g tTrue me vs xs (wipeE E1 vs) []).bind fun acc E2 => .ok (RV.fr (.lst acc)) (fE E2)).bind k) ((mapR f xs).bind rest) P := by
  have e : mapR f xs = compR (fun x => (f x).bind fun y => .ok (some y)) xs := by
    unfold mapR compR
    rw [map_as_comp]
  rw [e]
  refine r_comp hW (fun x E hE => ?_) hR h
  have : lcS g tTrue me x E = (stepG g me x E).bind fun r E3 => .ok (some r.d) E3 := by
    unfold lcS stepG
    cases g x E <;> rfl
  rw [this]
  exact (hb x E hE).bind fun c R E' q => ⟨_, E', rfl, by rw [q.1], q.2⟩
/-- .. that change a slot in each turn -/
theorem mapS_go {g : Tgt} {me : M RV} {vs : List Nat} {Ai : σ → List SA} {f : σ → D → Res (D × σ)} (hb : ∀ s x E, EA (Ai s) E → Ref (stepG g me x E) (f s x) fun p R E' => R.d = p.1 ∧ EA (Ai p.2) (wipeE E' vs)) :
    ∀ (xs acc : List D) (q : List D × σ) (s : σ) (E : Ev), EA (Ai s) E → mapSGo f s xs = .ok q → acc.length + q.1.length ≤ sizeLine → ∃ E', lcL g tTrue me vs xs E acc = .ok (acc ++ q.1) E' ∧ EA (Ai q.2) E'
  | [], acc, q, s, E, hE, h, _ => by
    cases h
    exact ⟨E, by rw [List.append_nil]; rfl, hE⟩
  | x :: xs, acc, q, s, E, hE, h, hl => by
    rw [lcS_go]
    unfold mapSGo at h
    have hx := hb s x E hE
    have e0 : lcS g tTrue me x E = (stepG g me x E).bind fun r E3 => .ok (some r.d) E3 := by
      unfold lcS stepG
      cases g x E <;> rfl
    rw [e0]
    split at h
    · rename_i p e
      rw [e] at hx
      obtain ⟨R, E3, e2, hR, hE3⟩ := hx
      cases e3 : mapSGo f p.2 xs with
      | ok q' =>
        rw [e3] at h
        have h : Res.ok (p.1 :: q'.1, q'.2) = Res.ok q := h
        cases h
        have hl : acc.length + (q'.1.length + 1) ≤ sizeLine := hl
        obtain ⟨E', h1, h2⟩ := mapS_go hb xs (acc ++ [p.1]) q' p.2 _ hE3 e3 (by rw [List.length_append, List.length_singleton]; omega)
        refine ⟨E', ?_, h2⟩
        rw [e2]
        show (if acc.length < sizeLine then lcL g tTrue me vs xs (wipeE E3 vs) (acc ++ [R.d]) else .stuck) = _
        rw [if_pos (by omega), hR, h1, List.append_assoc]
        rfl
      | ex x => rw [e3] at h; cases h
      | stuck => rw [e3] at h; cases h
    · cases h
theorem r_mapS {g : Tgt} {me : M RV} {vs : List Nat} {Ai A2 : σ → List SA} {f : σ → D → Res (D × σ)} {xs : List D} {E1 : Ev} {s0 : σ} {rest : List D × σ → Res γ} {fE : Ev → Ev} (hW : EA (Ai s0) (wipeE E1 vs)) (hb : ∀ s x E, EA (Ai s) E → Ref (stepG g me x E) (f s x) fun p R E' => R.d = p.1 ∧ EA (Ai p.2) (wipeE E' vs))
    (hR : ∀ s E2, EA (Ai s) E2 → EA (A2 s) (fE E2)) (h : ∀ l E', EA (A2 l.2) E' → Ref (k (.fr (.lst l.1)) E') (rest l) P) : Ref (((lcL g tTrue me vs xs (wipeE E1 vs) []).bind fun acc E2 => .ok (RV.fr (.lst acc)) (fE E2)).bind k) ((mapSR f s0 xs).bind rest) P := by
  unfold mapSR
  cases e : mapSGo f s0 xs with
  | ok l =>
    by_cases hl : l.1.length ≤ sizeLine
    · obtain ⟨E', h1, h2⟩ := mapS_go hb xs [] l _ _ hW e (by rw [List.length_nil, Nat.zero_add]; exact hl)
      rw [h1]
      show Ref (k _ _) (((if l.1.length ≤ sizeLine then Res.ok l else .stuck) : Res (List D × σ)).bind rest) P
      rw [if_pos hl]
      exact h _ _ (hR _ _ h2)
    · show Ref _ (((if l.1.length ≤ sizeLine then Res.ok l else .stuck) : Res (List D × σ)).bind rest) P
      rw [if_neg hl]
      trivial
  | ex x =>
    exfalso
    have : ∀ (xs : List D) (s : σ) (x : Xc), mapSGo f s xs ≠ .ex x := fun xs => by
      induction xs with
      | nil => intro s x h; cases h
      | cons y ys ih =>
        intro s x h
        unfold mapSGo at h
        split at h
        · rename_i p _
          cases e : mapSGo f p.2 ys with
          | ok l => rw [e] at h; cases h
          | ex z => exact ih _ z e
          | stuck => rw [e] at h; cases h
        · cases h
    exact this xs s0 x e
  | stuck => trivial
/-- over a list that a slot owns -/
theorem r_lcO {f : List D → Option (List D)} {g : Tgt} {mt : M Bool} {me : M RV} {vs : List Nat} {s : D} {body : List D → Res γ} (hE : EA A E) (hA : A[i]? = some (.own s)) (h : ∀ xs, s = .lst xs → isMut s = true → Ref ((liftL (f xs) E).bind fun ds _ => ((lcL g mt me vs ds (wipeE (E.set i .un) vs) []).bind fun acc E2 => .ok (RV.fr (.lst acc)) ((restE (E.set i .un) vs E2).set i (.ow s))).bind k) (body xs) P) : Ref ((eLcO i f g mt me vs E).bind k) (lstR s body) P := by
  cases s with
  | lst xs =>
    have e := own_mut hE hA rfl
    unfold eLcO
    rw [e]
    have h := h xs rfl rfl
    show Ref (Out.bind (match f xs with
      | some ds => ((lcL g mt me vs ds (wipeE (E.set i .un) vs) []).bind fun acc E2 => .ok (.fr (.lst acc)) ((restE (E.set i .un) vs E2).set i (.ow (.lst xs))))
      | none => .stuck) k) (body xs) P
    cases hf : f xs with
    | none => rw [hf] at h; exact h
    | some ds => rw [hf] at h; exact h
  | _ => trivial
/-! ### statements -/
end
section
variable {γ δ σ ρ : Type} {r : Res γ} {P : γ → Fl → Ev → Prop} {A A2 : List SA} {E : Ev} {i j n : Nat} {d a b c : D} {m1 s2 sa sb : M Fl} {m ma mb : M RV} {R Ra Rb : RV}
theorem r_last (h : Ref (sSeq m1 sNx E) r P) : Ref (m1 E) r P := by
  have : sSeq m1 sNx E = m1 E := by
    unfold sSeq sNx
    cases m1 E with
    | ok f E' => cases f <;> rfl
    | _ => rfl
  rw [this] at h
  exact h
theorem r_asg (h : Ref ((m E).bind fun R E1 => s2 (setRV E1 i R)) r P) : Ref (sSeq (sAsg i m) s2 E) r P := by
  have : sSeq (sAsg i m) s2 E = (m E).bind fun R E1 => s2 (setRV E1 i R) := by
    unfold sSeq sAsg
    cases m E with
    | ok R E1 => cases R <;> rfl
    | _ => rfl
  rw [this]
  exact h
theorem set_sh {A : List SA} {E : Ev} (hE : EA A E) (i : Nat) : EA (A.set i (.sh d)) (setRV E i (.sh d)) := hE.set (a := .sh d) rfl i
theorem set_frl {A : List SA} {E : Ev} {l : List D} (hE : EA A E) (i : Nat) : EA (A.set i (.own (.lst l))) (setRV E i (.fr (.lst l))) := hE.set (a := .own (.lst l)) (.inl ⟨rfl, rfl⟩) i
theorem set_fr {A : List SA} {E : Ev} (hE : EA A E) (i : Nat) (hR : (RK.fr d).ok R) : EA (A.set i (.own d)) (setRV E i R) := by
  rcases hR with ⟨rfl, hm⟩ | ⟨rfl, hm⟩
  · exact hE.set (a := .own d) (.inl ⟨rfl, hm⟩) i
  · exact hE.set (a := .own d) (.inr ⟨rfl, hm⟩) i
theorem set_val {A : List SA} {E : Ev} (hE : EA A E) (i : Nat) (hR : (RK.val d).ok R) : EA (A.set i (.val d)) (setRV E i R) := by
  rcases hR with rfl | ⟨rfl, hm⟩
  · exact hE.set (a := .val d) (.inl rfl) i
  · exact hE.set (a := .val d) (.inr ⟨rfl, hm⟩) i
theorem set_any {A : List SA} {E : Ev} (hE : EA A E) (i : Nat) (R : RV) : EA (A.set i .any) (setRV E i R) := by
  cases R with
  | sh d => exact hE.set (a := .any) (s := .sh d) trivial i
  | fr d => exact hE.set (a := .any) (s := .ow d) trivial i
theorem set_s {A : List SA} {E : Ev} (hE : EA A E) (i : Nat) (d : D) : EA (A.set i (.sh d)) (E.set i (.sh d)) := hE.set (a := .sh d) rfl i
theorem r_drop (h : Ref ((m E).bind fun _ E1 => s2 E1) r P) : Ref (sSeq (sDrop m) s2 E) r P := by
  have : sSeq (sDrop m) s2 E = (m E).bind fun _ E1 => s2 E1 := by
    unfold sSeq sDrop
    cases m E <;> rfl
  rw [this]
  exact h
theorem r_ret (h : Ref ((m E).bind fun R E1 => .ok (.rt R) E1) r P) : Ref (sSeq (sRet m) s2 E) r P := by
  have : sSeq (sRet m) s2 E = (m E).bind fun R E1 => .ok (.rt R) E1 := by
    unfold sSeq sRet
    cases m E <;> rfl
  rw [this]
  exact h
theorem r_retN (h : Ref (.ok (.rt (.sh .non)) E : Out Fl) r P) : Ref (sSeq sRetN s2 E) r P := h
theorem r_sassoc {s1 : M Fl} (h : Ref (sSeq m1 (sSeq s1 s2) E) r P) : Ref (sSeq (sSeq m1 s1) s2 E) r P := by
  have : sSeq (sSeq m1 s1) s2 E = sSeq m1 (sSeq s1 s2) E := by
    unfold sSeq
    cases m1 E with
    | ok f E1 => cases f <;> rfl
    | ex x E1 => rfl
    | stuck => rfl
  rw [this]
  exact h
theorem r_nx (h : Ref (s2 E) r P) : Ref (sSeq sNx s2 E) r P := h
theorem r_raise {x : Xc} : Ref (sSeq (sRaise x) s2 E) (.ex x) P := ⟨E, rfl⟩
theorem r_asgG {g : Tgt} (h : Ref ((m E).bind fun R E1 => stepG g s2 R.d E1) r P) : Ref (sSeq (sAsgG g m) s2 E) r P := by
  have : sSeq (sAsgG g m) s2 E = (m E).bind fun R E1 => stepG g s2 R.d E1 := by
    unfold sSeq sAsgG
    cases m E with
    | ok R E1 =>
      show (goNx (g R.d E1)).bind _ = stepG g s2 R.d E1
      unfold stepG
      cases g R.d E1 <;> rfl
    | _ => rfl
  rw [this]
  exact h
theorem r_gd {g : Tgt} {x y : D} {body : Ev → Out Fl} (e : x = y) (h : Ref (stepG g body y E) r P) : Ref (stepG g body x E) r P := e ▸ h
theorem r_par (h : Ref ((ma E).bind fun Ra E1 => (mb E1).bind fun Rb E2 => s2 ((E2.set i (.sh Ra.d)).set j (.sh Rb.d))) r P) : Ref (sSeq (sPar i j (aCons ma (aCons mb aNil))) s2 E) r P := by
  have : sSeq (sPar i j (aCons ma (aCons mb aNil))) s2 E = (ma E).bind fun Ra E1 => (mb E1).bind fun Rb E2 => s2 ((E2.set i (.sh Ra.d)).set j (.sh Rb.d)) := by
    unfold sSeq sPar aCons aNil
    cases ma E with
    | ok Ra E1 =>
      show ((((mb E1).bind fun a E1 => (Out.ok [] E1).bind fun ds E2 => Out.ok (a.d :: ds) E2).bind fun ds E2 => Out.ok (Ra.d :: ds) E2).bind _).bind _ = (mb E1).bind _
      cases mb E1 <;> rfl
    | _ => rfl
  rw [this]
  exact h
theorem par_eq {a b : D} (i j : Nat) (ha : Ra.d = a) (hb : Rb.d = b) (h : Ref (s2 ((E.set i (.sh a)).set j (.sh b))) r P) : Ref (s2 ((E.set i (.sh Ra.d)).set j (.sh Rb.d))) r P := by
  rw [ha, hb]
  exact h
theorem r_par2 (h : Ref ((ma E).bind fun Ra E1 => (mb E1).bind fun Rb E2 => s2 (setRV (setRV E2 i Ra) j Rb)) r P) : Ref (sSeq (sPar2 i j ma mb) s2 E) r P := by
  have : sSeq (sPar2 i j ma mb) s2 E = (ma E).bind fun Ra E1 => (mb E1).bind fun Rb E2 => s2 (setRV (setRV E2 i Ra) j Rb) := by
    unfold sSeq sPar2
    cases ma E with
    | ok Ra E1 =>
      show ((mb E1).bind _).bind _ = (mb E1).bind _
      cases mb E1 with
      | ok Rb E2 => cases Ra <;> cases Rb <;> rfl
      | _ => rfl
    | _ => rfl
  rw [this]
  exact h
def sqK (s2 : M Fl) : Fl → Ev → Out Fl := fun f E1 => match f with
  | .nx => s2 E1
  | f => .ok f E1
def stK (i : Nat) (k v : D) (E2 : Ev) : Out Fl := match hold E2 i with
    | some (.lst xs) => (match k with | .int j => (match ixN xs.length j with | some n => .ok .nx (putH E2 i (.lst (xs.set n v))) | none => .stuck) | _ => .stuck)
    | _ => .stuck
def stG (i : Nat) (mk : M RV) (v : D) (E1 : Ev) : Out Fl := match hold E1 i with
  | some d0 => (mk E1).bind fun k E2 => stK i k.d v E2
  | none => .stuck
theorem r_setIx {mv mk : M RV} (h : Ref ((mv E).bind fun v E1 => (stG i mk v.d E1).bind (sqK s2)) r P) : Ref (sSeq (sSetIx i mv mk) s2 E) r P := Ref.assoc h
theorem ref_setGo {k : RV} {E2 : Ev} {s : D} {v jd : D} {rest : D → Res γ} (A' : D → List SA) (hh : hold E2 i = some s) (hp : ∀ s', isMut s' = true → EA (A' s') (putH E2 i s')) (hk : k.d = jd) (h : ∀ s' E', EA (A' s') E' → Ref (s2 E') (rest s') P) :
    Ref ((stK i k.d v E2).bind (sqK s2)) ((rSet s jd v).bind rest) P := by
  unfold stK
  rw [hh, hk]
  unfold rSet
  cases s with
  | lst xs =>
    cases jd with
    | int j =>
      dsimp only
      cases ixN xs.length j with
      | none => trivial
      | some n => exact h _ _ (hp _ rfl)
    | _ => trivial
  | _ => trivial
/-- x[j] = v -/
theorem r_set {mk : M RV} {Rv : RV} {s v : D} {rj : Res D} {rest : D → Res γ} (hE : EA A E) (hA : A[i]? = some (.own s)) (hv : Rv.d = v) (hk : Ref (mk E) rj fun d R E' => R.d = d ∧ EA A2 E') (hA2 : A2[i]? = some (.own s)) (h : ∀ s' E', EA (A2.set i (.own s')) E' → Ref (s2 E') (rest s') P) : Ref ((stG i mk Rv.d E).bind (sqK s2)) (lR s (rj.bind fun j => (rSet s j v).bind rest)) P := by
  rw [hv]
  unfold lR stG
  by_cases hs : isLst s = true
  · rw [if_pos hs, own_hold hE (.inl hA) (lst_mut hs)]
    refine Ref.assoc (hk.bind fun j R E' q => ?_)
    exact ref_setGo (fun s' => A2.set i (.own s')) (own_hold q.2 (.inl hA2) (lst_mut hs)) (fun s' hm' => own_put s' q.2 hA2 (lst_mut hs) hm') q.1 h
  · rw [if_neg hs]
    trivial
theorem r_setB {mk : M RV} {Rv : RV} {s v : D} {rj : Res D} {rest : D → Res γ} (hE : EA A E) (hA : A[i]? = some (.bo s)) (hv : Rv.d = v) (hk : Ref (mk E) rj fun d R E' => R.d = d ∧ EA A2 E') (hA2 : A2[i]? = some (.bo s)) (h : ∀ s' E', EA (A2.set i (.bo s')) E' → Ref (s2 E') (rest s') P) : Ref ((stG i mk Rv.d E).bind (sqK s2)) (lR s (rj.bind fun j => (rSet s j v).bind rest)) P := by
  rw [hv]
  unfold lR stG
  by_cases hs : isLst s = true
  · rw [if_pos hs, own_hold hE (.inr hA) (lst_mut hs)]
    refine Ref.assoc (hk.bind fun j R E' q => ?_)
    exact ref_setGo (fun s' => A2.set i (.bo s')) (own_hold q.2 (.inr hA2) (lst_mut hs)) (fun s' _ => bo_put s' q.2 hA2) q.1 h
  · rw [if_neg hs]
    trivial
/-! ### one way or the other -/
theorem r_sIf {mt : M Bool} (h : Ref ((mt E).bind fun t E1 => sSeq (ifK sa sb t) s2 E1) r P) : Ref (sSeq (sIf mt sa sb) s2 E) r P := by
  have : sSeq (sIf mt sa sb) s2 E = (mt E).bind fun t E1 => sSeq (ifK sa sb t) s2 E1 := by
    unfold sSeq sIf
    cases mt E <;> rfl
  rw [this]
  exact h
/-- ended: not falling through -/
def Ends (Q P : γ → Fl → Ev → Prop) : Prop := ∀ c fl E, Q c fl E → fl ≠ .nx ∧ P c fl E
theorem seq_ends {Q : γ → Fl → Ev → Prop} (hQ : Ends Q P) (h : Ref (m1 E) r Q) : Ref (sSeq m1 s2 E) r P := by
  unfold sSeq
  cases r with
  | ok c =>
    obtain ⟨fl, E', e, q⟩ := h
    obtain ⟨h1, h2⟩ := hQ _ _ _ q
    rw [e]
    refine ⟨fl, E', ?_, h2⟩
    cases fl <;> first | rfl | exact absurd rfl h1
  | ex x =>
    obtain ⟨E', e⟩ := h
    rw [e]
    exact ⟨E', rfl⟩
  | stuck => trivial
/-- the first way does not fall through -/
theorem r_ifR {t : Bool} {ra rr : Res γ} {Q : γ → Fl → Ev → Prop} (hQ : Ends Q P) (h1 : Ref (sa E) ra Q) (h2 : Ref (sSeq sb s2 E) rr P) : Ref (sSeq (ifK sa sb t) s2 E) (if t = true then ra else rr) P := by
  cases t with
  | true => exact seq_ends hQ h1
  | false => exact h2
theorem r_ifR2 {t : Bool} {ra rr : Res γ} {Q : γ → Fl → Ev → Prop} (hQ : Ends Q P) (h1 : Ref (sSeq sa s2 E) ra P) (h2 : Ref (sb E) rr Q) : Ref (sSeq (ifK sa sb t) s2 E) (if t = true then ra else rr) P := by
  cases t with
  | true => exact h1
  | false => exact seq_ends hQ h2
theorem r_ifJ {t : Bool} {ra rb : Res δ} {rest : δ → Res γ} {Ai : δ → List SA} (h1 : Ref (sa E) ra fun s fl E' => fl = .nx ∧ EA (Ai s) E') (h2 : Ref (sb E) rb fun s fl E' => fl = .nx ∧ EA (Ai s) E') (h : ∀ s E', EA (Ai s) E' → Ref (s2 E') (rest s) P) : Ref (sSeq (ifK sa sb t) s2 E) ((if t = true then ra else rb).bind rest) P := by
  have key : ∀ (m1 : M Fl) (rm : Res δ), Ref (m1 E) rm (fun s fl E' => fl = .nx ∧ EA (Ai s) E') → Ref (sSeq m1 s2 E) (rm.bind rest) P := fun m1 rm h1 => h1.bind fun s fl E' q => by
    rw [q.1]
    exact h s E' q.2
  cases t with
  | true => exact key sa ra h1
  | false => exact key sb rb h2
/-- what falls through, or ends -/
def PFw (Ai : σ → List SA) (Q : ρ → Fl → Ev → Prop) : Fw σ ρ → Fl → Ev → Prop
  | .nx s, fl, E => fl = .nx ∧ EA (Ai s) E
  | .rt c, fl, E => Q c fl E
theorem seq_fw {rf : Res (Fw σ ρ)} {inj : ρ → Res γ} {rest : σ → Res γ} {Ai : σ → List SA} {Q : ρ → Fl → Ev → Prop} (hQ : ∀ c fl E, Q c fl E → fl ≠ .nx ∧ Ref (.ok fl E) (inj c) P) (h1 : Ref (m1 E) rf (PFw Ai Q)) (h : ∀ s E', EA (Ai s) E' → Ref (s2 E') (rest s) P) : Ref (sSeq m1 s2 E) (rf.bind fun w => fwR w inj rest) P := by
  refine h1.bind fun w fl E' q => ?_
  cases w with
  | nx s =>
    rw [q.1]
    exact h s E' q.2
  | rt c =>
    obtain ⟨h1, h2⟩ := hQ c fl E' q
    cases fl <;> first | exact h2 | exact absurd rfl h1
theorem r_ifF {t : Bool} {ra rb : Res (Fw σ ρ)} {inj : ρ → Res γ} {rest : σ → Res γ} {Ai : σ → List SA} {Q : ρ → Fl → Ev → Prop} (hQ : ∀ c fl E, Q c fl E → fl ≠ .nx ∧ Ref (.ok fl E) (inj c) P) (h1 : Ref (sa E) ra (PFw Ai Q)) (h2 : Ref (sb E) rb (PFw Ai Q)) (h : ∀ s E', EA (Ai s) E' → Ref (s2 E') (rest s) P) :
    Ref (sSeq (ifK sa sb t) s2 E) ((if t = true then ra else rb).bind fun w => fwR w inj rest) P := by
  refine seq_fw (m1 := ifK sa sb t) hQ ?_ h
  cases t with
  | true => exact h1
  | false => exact h2
theorem r_tif {Y δ : Type} {t : Bool} {oa ob : Out Y} {ra rb : Res δ} {Q : δ → Y → Ev → Prop} (h1 : Ref oa ra Q) (h2 : Ref ob rb Q) : Ref (if t = true then oa else ob) (if t = true then ra else rb) Q := by
  cases t with
  | true => exact h1
  | false => exact h2
/-! ### loops -/
theorem r_for {mi : M (List D)} {g : Tgt} {body : M Fl} (h : Ref ((mi E).bind fun ds E1 => sSeq (forL g body ds) s2 E1) r P) : Ref (sSeq (sFor mi g body) s2 E) r P := by
  have : sSeq (sFor mi g body) s2 E = (mi E).bind fun ds E1 => sSeq (forL g body ds) s2 E1 := by
    unfold sSeq sFor
    cases mi E <;> rfl
  rw [this]
  exact h
theorem forL_step {g : Tgt} {body : M Fl} {x : D} {xs : List D} : forL g body (x :: xs) E = (stepG g body x E).bind fun f E2 => match f with
      | .nx => forL g body xs E2
      | .ct => forL g body xs E2
      | .bk => .ok .nx E2
      | .rt r => .ok (.rt r) E2 := by
  conv => lhs; unfold forL
  unfold stepG
  cases g x E <;> rfl
/-- a turn falls through, or goes on -/
def PNx (Ai : σ → List SA) : σ → Fl → Ev → Prop := fun s fl E => (fl = .nx ∨ fl = .ct) ∧ EA (Ai s) E
theorem for_go {g : Tgt} {body : M Fl} {Ai : σ → List SA} {f : σ → D → Res σ} (hb : ∀ s x E, EA (Ai s) E → Ref (stepG g body x E) (f s x) (PNx Ai)) : ∀ (xs : List D) (s : σ) (E : Ev), EA (Ai s) E → Ref (forL g body xs E) (forR f s xs) fun s' fl E' => fl = .nx ∧ EA (Ai s') E'
  | [], s, E, hE => ⟨.nx, E, rfl, rfl, hE⟩
  | x :: xs, s, E, hE => by
    rw [forL_step]
    unfold forR
    refine (hb s x E hE).bind fun s' fl E' q => ?_
    rcases q.1 with e | e
    · rw [e]; exact for_go hb xs s' E' q.2
    · rw [e]; exact for_go hb xs s' E' q.2
theorem r_forS {g : Tgt} {body : M Fl} {Ai : σ → List SA} {f : σ → D → Res σ} {s0 : σ} {xs : List D} {rest : σ → Res γ} (hE : EA (Ai s0) E) (hb : ∀ s x E, EA (Ai s) E → Ref (stepG g body x E) (f s x) (PNx Ai)) (h : ∀ s E', EA (Ai s) E' → Ref (s2 E') (rest s) P) : Ref (sSeq (forL g body xs) s2 E) ((forR f s0 xs).bind rest) P := by
  refine (for_go hb xs s0 E hE).bind fun s fl E' q => ?_
  rw [q.1]
  exact h s E' q.2
def PFx (Ai : σ → List SA) (Q : ρ → Fl → Ev → Prop) : Fw σ ρ → Fl → Ev → Prop
  | .nx s, fl, E => (fl = .nx ∨ fl = .ct) ∧ EA (Ai s) E
  | .rt c, fl, E => Q c fl E
def IsRt (Q : ρ → Fl → Ev → Prop) : Prop := ∀ c fl E, Q c fl E → ∃ R, fl = .rt R
theorem forF_go {g : Tgt} {body : M Fl} {Ai : σ → List SA} {Q : ρ → Fl → Ev → Prop} {f : σ → D → Res (Fw σ ρ)} (hR : IsRt Q) (hb : ∀ s x E, EA (Ai s) E → Ref (stepG g body x E) (f s x) (PFx Ai Q)) : ∀ (xs : List D) (s : σ) (E : Ev), EA (Ai s) E → Ref (forL g body xs E) (forRF f s xs) (PFw Ai Q)
  | [], s, E, hE => ⟨.nx, E, rfl, rfl, hE⟩
  | x :: xs, s, E, hE => by
    rw [forL_step]
    unfold forRF
    refine (hb s x E hE).bind fun w fl E' q => ?_
    cases w with
    | nx s' =>
      rcases q.1 with e | e
      · rw [e]; exact forF_go hR hb xs s' E' q.2
      · rw [e]; exact forF_go hR hb xs s' E' q.2
    | rt c =>
      have q : Q c fl E' := q
      obtain ⟨R, e⟩ := hR c fl E' q
      subst e
      exact ⟨_, E', rfl, q⟩
theorem r_forF {g : Tgt} {body : M Fl} {Ai : σ → List SA} {Q : ρ → Fl → Ev → Prop} {f : σ → D → Res (Fw σ ρ)} {s0 : σ} {xs : List D} {inj : ρ → Res γ} {rest : σ → Res γ} (hR : IsRt Q) (hQ : ∀ c fl E, Q c fl E → fl ≠ .nx ∧ Ref (.ok fl E) (inj c) P) (hE : EA (Ai s0) E) (hb : ∀ s x E, EA (Ai s) E → Ref (stepG g body x E) (f s x) (PFx Ai Q))
    (h : ∀ s E', EA (Ai s) E' → Ref (s2 E') (rest s) P) : Ref (sSeq (forL g body xs) s2 E) ((forRF f s0 xs).bind fun w => fwR w inj rest) P := seq_fw hQ (forF_go hR hb xs s0 E hE) h
theorem wh_go {mt : M Bool} {body : M Fl} {Ai : σ → List SA} {ct : σ → Res Bool} {f : σ → Res σ} (hc : ∀ s E, EA (Ai s) E → Ref (mt E) (ct s) fun t x E' => x = t ∧ EA (Ai s) E') (hb : ∀ s E, EA (Ai s) E → Ref (body E) (f s) (PNx Ai)) : ∀ (n : Nat) (s : σ) (E : Ev), EA (Ai s) E → Ref (whL mt body n E) (whR ct f n s) fun s' fl E' => fl = .nx ∧ EA (Ai s') E'
  | 0, s, E, hE => trivial
  | n + 1, s, E, hE => by
    unfold whL whR
    refine (hc s E hE).bind fun t x E' q => ?_
    rw [q.1]
    cases t with
    | true =>
      refine (hb s E' q.2).bind fun s' fl E2 q => ?_
      rcases q.1 with e | e
      · rw [e]; exact wh_go hc hb n s' E2 q.2
      · rw [e]; exact wh_go hc hb n s' E2 q.2
    | false => exact ⟨.nx, E', rfl, rfl, q.2⟩
theorem r_while {mt : M Bool} {body : M Fl} {n : Nat} {Ai : σ → List SA} {ct : σ → Res Bool} {f : σ → Res σ} {s0 : σ} {rest : σ → Res γ} (hE : EA (Ai s0) E) (hc : ∀ s E, EA (Ai s) E → Ref (mt E) (ct s) fun t x E' => x = t ∧ EA (Ai s) E') (hb : ∀ s E, EA (Ai s) E → Ref (body E) (f s) (PNx Ai)) (h : ∀ s E', EA (Ai s) E' → Ref (s2 E') (rest s) P) :
    Ref (sSeq (whL mt body n) s2 E) ((whR ct f n s0).bind rest) P := by
  refine (wh_go hc hb n s0 E hE).bind fun s fl E' q => ?_
  rw [q.1]
  exact h s E' q.2
theorem whF_go {mt : M Bool} {body : M Fl} {Ai : σ → List SA} {Q : ρ → Fl → Ev → Prop} {ct : σ → Res Bool} {f : σ → Res (Fw σ ρ)} (hR : IsRt Q) (hc : ∀ s E, EA (Ai s) E → Ref (mt E) (ct s) fun t x E' => x = t ∧ EA (Ai s) E') (hb : ∀ s E, EA (Ai s) E → Ref (body E) (f s) (PFx Ai Q)) : ∀ (n : Nat) (s : σ) (E : Ev), EA (Ai s) E → Ref (whL mt body n E) (whRF ct f n s) (PFw Ai Q)
  | 0, s, E, hE => trivial
  | n + 1, s, E, hE => by
    unfold whL whRF
    refine (hc s E hE).bind fun t x E' q => ?_
    rw [q.1]
    cases t with
    | true =>
      refine (hb s E' q.2).bind fun w fl E2 q => ?_
      cases w with
      | nx s' =>
        rcases q.1 with e | e
        · rw [e]; exact whF_go hR hc hb n s' E2 q.2
        · rw [e]; exact whF_go hR hc hb n s' E2 q.2
      | rt c =>
        have q : Q c fl E2 := q
        obtain ⟨R, e⟩ := hR c fl E2 q
        subst e
        exact ⟨_, E2, rfl, q⟩
    | false => exact ⟨.nx, E', rfl, rfl, q.2⟩
theorem r_whileF {mt : M Bool} {body : M Fl} {n : Nat} {Ai : σ → List SA} {Q : ρ → Fl → Ev → Prop} {ct : σ → Res Bool} {f : σ → Res (Fw σ ρ)} {s0 : σ} {inj : ρ → Res γ} {rest : σ → Res γ} (hR : IsRt Q) (hQ : ∀ c fl E, Q c fl E → fl ≠ .nx ∧ Ref (.ok fl E) (inj c) P) (hE : EA (Ai s0) E) (hc : ∀ s E, EA (Ai s) E → Ref (mt E) (ct s) fun t x E' => x = t ∧ EA (Ai s) E')
    (hb : ∀ s E, EA (Ai s) E → Ref (body E) (f s) (PFx Ai Q)) (h : ∀ s E', EA (Ai s) E' → Ref (s2 E') (rest s) P) : Ref (sSeq (whL mt body n) s2 E) ((whRF ct f n s0).bind fun w => fwR w inj rest) P := seq_fw hQ (whF_go hR hc hb n s0 E hE) h
/-! ### defs -/
/-- a value given back -/
def PR (K : D → RK) : D → Fl → Ev → Prop := fun c fl _ => ∃ R, fl = .rt R ∧ (K c).ok R
/-- .. or the end reached -/
def PN : D → Fl → Ev → Prop := fun c fl _ => (∃ R, fl = .rt R ∧ (RK.val c).ok R) ∨ (fl = .nx ∧ c = .non)
/-- with what the borrowed slot holds then -/
def PB (K : D → RK) : D × D → Fl → Ev → Prop := fun p fl E => ∃ R, fl = .rt R ∧ (K p.1).ok R ∧ boAt E = some p.2
def PBN : D × D → Fl → Ev → Prop := fun p fl E => ((∃ R, fl = .rt R ∧ (RK.val p.1).ok R) ∨ (fl = .nx ∧ p.1 = .non)) ∧ boAt E = some p.2
theorem rt_ne {fl : Fl} {R : RV} (e : fl = .rt R) : fl ≠ .nx := by
  rw [e]
  exact fun z => by cases z
theorem ends_PR {K : D → RK} : Ends (PR K) (PR K) := fun c fl E ⟨R, e, q⟩ => ⟨rt_ne e, R, e, q⟩
theorem ends_PN : Ends (PR .val) PN := fun c fl E ⟨R, e, q⟩ => ⟨rt_ne e, .inl ⟨R, e, q⟩⟩
theorem ends_PB {K : D → RK} : Ends (PB K) (PB K) := fun c fl E ⟨R, e, q⟩ => ⟨rt_ne e, R, e, q⟩
theorem ends_PBN : Ends (PB .val) PBN := fun c fl E ⟨R, e, q, h⟩ => ⟨rt_ne e, .inl ⟨R, e, q⟩, h⟩
theorem ends_F : Ends (fun _ _ _ => False) P := fun c fl E q => q.elim
/-- inside a loop: giving back ends the turn -/
def PQ (Q : ρ → Fl → Ev → Prop) : Fw σ ρ → Fl → Ev → Prop
  | .nx _, _, _ => False
  | .rt c, fl, E => Q c fl E
theorem ends_PQ {Ai : σ → List SA} {Q : ρ → Fl → Ev → Prop} (h : ∀ c fl E, Q c fl E → fl ≠ .nx) : Ends (PQ (σ := σ) Q) (PFx Ai Q) := fun w fl E q => by
  cases w with
  | nx _ => exact q.elim
  | rt c => exact ⟨h c fl E q, q⟩
theorem ends_PQw {Ai : σ → List SA} {Q : ρ → Fl → Ev → Prop} (h : ∀ c fl E, Q c fl E → fl ≠ .nx) : Ends (PQ (σ := σ) Q) (PFw Ai Q) := fun w fl E q => by
  cases w with
  | nx _ => exact q.elim
  | rt c => exact ⟨h c fl E q, q⟩
theorem rt_PR {K : D → RK} : IsRt (PR K) := fun c fl E ⟨R, e, _⟩ => ⟨R, e⟩
theorem rt_PB {K : D → RK} : IsRt (PB K) := fun c fl E ⟨R, e, _⟩ => ⟨R, e⟩
theorem IsRt.nx {Q : ρ → Fl → Ev → Prop} (h : IsRt Q) : ∀ c fl E, Q c fl E → fl ≠ .nx := fun c fl E q => by
  obtain ⟨R, e⟩ := h c fl E q
  rw [e]
  exact fun z => by cases z
/-- how what a loop gives back is given back -/
theorem in_PR {K : D → RK} : ∀ c fl E, PR K c fl E → fl ≠ .nx ∧ Ref (.ok fl E) (.ok c) (PR K) := fun c fl E q => ⟨rt_PR.nx c fl E q, fl, E, rfl, q⟩
theorem in_PN : ∀ c fl E, PR .val c fl E → fl ≠ .nx ∧ Ref (.ok fl E) (.ok c) PN := fun c fl E q => ⟨rt_PR.nx c fl E q, fl, E, rfl, (ends_PN c fl E q).2⟩
theorem in_PB {K : D → RK} : ∀ c fl E, PB K c fl E → fl ≠ .nx ∧ Ref (.ok fl E) (.ok c) (PB K) := fun c fl E q => ⟨rt_PB.nx c fl E q, fl, E, rfl, q⟩
theorem in_PBN : ∀ c fl E, PB .val c fl E → fl ≠ .nx ∧ Ref (.ok fl E) (.ok c) PBN := fun c fl E q => ⟨rt_PB.nx c fl E q, fl, E, rfl, (ends_PBN c fl E q).2⟩
theorem in_PFx {Ai : σ → List SA} {Q : ρ → Fl → Ev → Prop} (h : IsRt Q) : ∀ c fl E, Q c fl E → fl ≠ .nx ∧ Ref (.ok fl E) (.ok (.rt c)) (PFx Ai Q) := fun c fl E q => ⟨h.nx c fl E q, fl, E, rfl, q⟩
theorem in_PFw {Ai : σ → List SA} {Q : ρ → Fl → Ev → Prop} (h : IsRt Q) : ∀ c fl E, Q c fl E → fl ≠ .nx ∧ Ref (.ok fl E) (.ok (.rt c)) (PFw Ai Q) := fun c fl E q => ⟨h.nx c fl E q, fl, E, rfl, q⟩
theorem fn_R {N : Nat} {m : M Fl} {ds : List D} {r : Res D} {K : D → RK} (h : Ref (m (ev0 N ds)) r (PR K)) : FOk (mFn N m ds) r K := by
  unfold mFn
  cases r with
  | ok d =>
    obtain ⟨fl, E, e, R, rfl, q⟩ := h
    rw [e]
    exact ⟨R, rfl, q⟩
  | ex x =>
    obtain ⟨E, e⟩ := h
    rw [e]
    rfl
  | stuck => trivial
theorem fn_N {N : Nat} {m : M Fl} {ds : List D} {r : Res D} (h : Ref (m (ev0 N ds)) r PN) : FOk (mFn N m ds) r .val := by
  unfold mFn
  cases r with
  | ok d =>
    obtain ⟨fl, E, e, ⟨R, rfl, q⟩ | ⟨rfl, rfl⟩⟩ := h
    · rw [e]
      exact ⟨R, rfl, q⟩
    · rw [e]
      exact ⟨.sh .non, rfl, .inl rfl⟩
  | ex x =>
    obtain ⟨E, e⟩ := h
    rw [e]
    rfl
  | stuck => trivial
theorem fn_B {N : Nat} {m : M Fl} {d : D} {ds : List D} {r : Res (D × D)} {K : D → RK} (h : Ref (m (ev0B N d ds)) r (PB K)) (hx : ∀ x E, m (ev0B N d ds) = .ex x E → boAt E ≠ none) : FBk (mFnB N m d ds) r K := by
  unfold mFnB
  cases r with
  | ok p =>
    obtain ⟨fl, E, e, R, rfl, q, hb⟩ := h
    rw [e]
    show FBk (match boAt E with | some d' => .ok R d' | none => .stuck) _ K
    rw [hb]
    exact ⟨R, rfl, q⟩
  | ex x =>
    obtain ⟨E, e⟩ := h
    have := hx x E e
    rw [e]
    show FBk (match boAt E with | some d' => .ex x d' | none => .stuck) _ K
    cases hb : boAt E with
    | none => exact absurd hb this
    | some d' => exact ⟨d', rfl⟩
  | stuck => trivial
/-- a def that changes its first argument and raises nothing (what it would raise is not told) -/
def noEx {γ : Type} (r : Res γ) : Res γ := match r with
  | .ex _ => .stuck
  | r => r
theorem fn_B0 {N : Nat} {m : M Fl} {d : D} {ds : List D} {r : Res (D × D)} {K : D → RK} (h : Ref (m (ev0B N d ds)) r (PB K)) : FBk (mFnB N m d ds) (noEx r) K := by
  unfold mFnB
  cases r with
  | ok p =>
    obtain ⟨fl, E, e, R, rfl, q, hb⟩ := h
    rw [e]
    show FBk (match boAt E with | some d' => .ok R d' | none => .stuck) _ K
    rw [hb]
    exact ⟨R, rfl, q⟩
  | ex x => trivial
  | stuck => trivial
theorem fn_BN {N : Nat} {m : M Fl} {d : D} {ds : List D} {r : Res (D × D)} (h : Ref (m (ev0B N d ds)) r PBN) : FBk (mFnB N m d ds) (noEx r) .val := by
  unfold mFnB
  cases r with
  | ok p =>
    obtain ⟨fl, E, e, ⟨R, rfl, q⟩ | ⟨rfl, q⟩, hb⟩ := h
    · rw [e]
      show FBk (match boAt E with | some d' => .ok R d' | none => .stuck) _ .val
      rw [hb]
      exact ⟨R, rfl, q⟩
    · rw [e]
      show FBk (match boAt E with | some d' => .ok (.sh .non) d' | none => .stuck) _ .val
      rw [hb]
      exact ⟨.sh .non, rfl, .inl (by rw [q])⟩
  | ex x => trivial
  | stuck => trivial
theorem bo_get {s : D} (hE : EA (.bo s :: A) E) : boAt E = some s := by
  cases hE with
  | cons h r =>
    have h : _ = Sl.bo s := h
    subst h
    rfl
theorem FOk.foR {o : FO} {d : D} {r : Res D} {K : D → RK} (h : FOk o r K) (e : r = .ok d) (hK : ∀ d R, (K d).ok R → R.d = d) : MM.foR o = .ok d := by
  subst e
  obtain ⟨R, e, q⟩ := h
  rw [e]
  show Res.ok R.d = _
  rw [hK d R q]
/-! ### try -/
def tryR {γ : Type} (r : Res γ) (h : Xc → Res γ) : Res γ := match r with
  | .ex x => h x
  | r => r
/-- the clause for an exception -/
def hdR {γ : Type} (sub : Nat → Nat → Option Bool) : List (Nat × (Xc → Res γ)) → Xc → Res γ
  | [], x => .ex x
  | (c, f) :: r, x => match sub x.c c with
    | some true => (match f x with
      | .ex _ => .stuck
      | r => r)
    | some false => hdR sub r x
    | none => .stuck
inductive HdsR {γ : Type} (P : γ → Fl → Ev → Prop) : List Hd → List (Nat × (Xc → Res γ)) → Prop
  | nil : HdsR P [] []
  | cons {h : Hd} {l : List Hd} {f : Xc → Res γ} {fs : List (Nat × (Xc → Res γ))} : (∀ x E, Ref (h.m x E) (f x) P) → (∀ c fl E, P c fl E → P c fl (unSet E h.i)) → HdsR P l fs → HdsR P (h :: l) ((h.c, f) :: fs)
theorem hd_go {sub : Nat → Nat → Option Bool} {x : Xc} {P : γ → Fl → Ev → Prop} : ∀ {hs : List Hd} {fs : List (Nat × (Xc → Res γ))} (E : Ev), HdsR P hs fs → Ref (hdL sub x hs E) (hdR sub fs x) P
  | _, _, E, .nil => ⟨E, rfl⟩
  | _, _, E, .cons (h := h) (f := f) h1 h2 r => by
    unfold hdL hdR
    cases sub x.c h.c with
    | none => trivial
    | some b =>
      cases b with
      | false => exact hd_go E r
      | true =>
        have q := h1 x (unSet E h.i)
        show Ref (goHd x h E) (match f x with | .ex _ => .stuck | r => r) P
        unfold goHd
        cases hf : f x with
        | ok c =>
          rw [hf] at q
          obtain ⟨fl, E', e, q⟩ := q
          rw [e]
          exact ⟨fl, _, rfl, h2 _ _ _ q⟩
        | ex _ => trivial
        | stuck => trivial
theorem r_try {sub : Nat → Nat → Option Bool} {mb : M Fl} {hs : List Hd} {fs : List (Nat × (Xc → Res γ))} {rb : Res γ} (h : Ref (mb E) rb P) (hh : HdsR P hs fs) : Ref (sTry sub mb hs E) (tryR rb (hdR sub fs)) P := by
  unfold sTry tryR
  cases rb with
  | ok c =>
    obtain ⟨fl, E', e, q⟩ := h
    rw [e]
    exact ⟨fl, E', rfl, q⟩
  | ex x =>
    obtain ⟨E', e⟩ := h
    rw [e]
    exact hd_go E' hh
  | stuck => trivial
theorem r_tryE {Q : γ → Fl → Ev → Prop} {sub : Nat → Nat → Option Bool} {mb : M Fl} {hs : List Hd} {fs : List (Nat × (Xc → Res γ))} {rb : Res γ} (hQ : Ends Q P) (h : Ref (mb E) rb Q) (hh : HdsR Q hs fs) : Ref (sSeq (sTry sub mb hs) s2 E) (tryR rb (hdR sub fs)) P := seq_ends hQ (r_try h hh)
end
end MM

/-! MM: the steps of a mirror, on numbers, rows, lists. -/
namespace MM
open PySem PySem.Spec PyProof.Rows L2
theorem size_big : 16000000 ≤ sizeLine := by decide
theorem sz {n : Nat} (h : n ≤ 16000000) : n ≤ sizeLine := Nat.le_trans h size_big
/-! ### numbers -/
theorem r_add (i j : Int) : r2 fAdd (.int i) (.int j) = .ok (.int (i + j)) := rfl
theorem r_subi (i j : Int) : r2 fSub (.int i) (.int j) = .ok (.int (i - j)) := rfl
theorem r_neg (i : Int) : r1 fNeg (.int i) = .ok (.int (-i)) := rfl
theorem mulOk_lr {a b : Int} {p q : Nat} (ha : a.natAbs < 2 ^ p) (hb : b.natAbs < 2 ^ q) (h : p + q < 1000000) : mulOk a b = true := by
  have l : ∀ {x : Int} {p : Nat}, x.natAbs < 2 ^ p → x.natAbs.log2 ≤ p := fun {x p} hx => by
    by_cases h0 : x.natAbs = 0
    · rw [h0]; exact Nat.zero_le _
    · exact Nat.le_of_lt ((Nat.log2_lt h0).mpr hx)
  unfold mulOk
  have h1 := l ha
  have h2 := l hb
  rw [decide_eq_true (show a.natAbs.log2 + b.natAbs.log2 < 1000000 by omega), Bool.or_true]
theorem mulOk_small {a b : Int} (h : -(2 ^ 64) < a ∧ a < 2 ^ 64 ∨ -(2 ^ 64) < b ∧ b < 2 ^ 64) : mulOk a b = true := by
  unfold mulOk
  rcases h with h | h
  · rw [decide_eq_true h]; simp
  · rw [decide_eq_true h]; simp
theorem r_mul {i j : Int} (h : mulOk i j = true) : r2 fMul (.int i) (.int j) = .ok (.int (i * j)) := by
  unfold r2
  have : fMul (.int i) (.int j) = some (.sh (.int (i * j))) := if_pos h
  rw [this]
  rfl
theorem r_fdiv {i j : Int} (h0 : j ≠ 0) (hl : j.natAbs.log2 < 9000) : r2 fFdiv (.int i) (.int j) = .ok (.int (i.fdiv j)) := by
  unfold r2
  have : fFdiv (.int i) (.int j) = some (.sh (.int (i.fdiv j))) := if_pos (fdivOk_log h0 hl)
  rw [this]
  rfl
theorem r_fmod {i j : Int} (h0 : j ≠ 0) : r2 fMod (.int i) (.int j) = .ok (.int (i.fmod j)) := by
  unfold r2
  have : fMod (.int i) (.int j) = some (.sh (.int (i.fmod j))) := if_pos (decide_eq_true h0)
  rw [this]
  rfl
theorem r_absi (i : Int) : rN fAbs [.int i] = .ok (.int (i.natAbs : Nat)) := by
  show Res.ok (D.int (if i < 0 then -i else i)) = _
  congr 2
  split <;> omega
theorem r_int1 (i : Int) : rN fInt1 [.int i] = .ok (.int i) := rfl
theorem r_int1b (b : Bool) : rN fInt1 [.bl b] = .ok (.int (if b then 1 else 0)) := rfl
theorem rc_eq (i j : Int) : rc2 cEq (.int i) (.int j) = .ok (decide (i = j)) := by
  unfold rc2
  rw [cEq_int]
  rfl
theorem rc_ne (i j : Int) : rc2 cNe (.int i) (.int j) = .ok (decide (i ≠ j)) := by
  unfold rc2 cNe
  rw [cEq_int]
  show Res.ok (!(i == j)) = _
  congr 1
  by_cases h : i = j
  · subst h; simp
  · simp [h]
theorem rc_lt (i j : Int) : rc2 cLt (.int i) (.int j) = .ok (decide (i < j)) := rfl
theorem rc_le (i j : Int) : rc2 cLe (.int i) (.int j) = .ok (decide (i ≤ j)) := rfl
theorem rc_gt (i j : Int) : rc2 cGt (.int i) (.int j) = .ok (decide (j < i)) := rfl
theorem rc_ge (i j : Int) : rc2 cGe (.int i) (.int j) = .ok (decide (j ≤ i)) := rfl
theorem r_eqv (i j : Int) : r2 (cmp cEq) (.int i) (.int j) = .ok (.bl (decide (i = j))) := by
  unfold r2 cmp
  rw [cEq_int]
  rfl
theorem r_trub (b : Bool) : rTru (.bl b) = .ok b := rfl
theorem r_notb (b : Bool) : notR (.bl b) = .ok (.bl (!b)) := rfl
theorem nat_eq (m n : Nat) : decide ((m : Int) = (n : Int)) = decide (m = n) := by
  congr 1
  exact propext ⟨fun h => by omega, fun h => by omega⟩
/-! ### lists -/
theorem ixN_nat {n k : Nat} (h : k < n) : ixN n (k : Int) = some k := by
  unfold ixN
  rw [if_pos (by omega), if_pos (by omega)]
  rfl
theorem atI_nat {α : Type} {xs : List α} {k : Nat} {x : α} (h : xs[k]? = some x) : atI xs (k : Int) = some x := by
  unfold atI
  rw [ixN_nat (List.getElem?_eq_some_iff.mp h).1]
  exact h
theorem r_ixT {xs : List D} {k : Nat} {x : D} (h : xs[k]? = some x) : r2 fIx (.tup xs) (.int (k : Nat)) = .ok x := by
  show (match (atI xs (k : Int)).map RV.sh with | some R => Res.ok R.d | none => .stuck) = _
  rw [atI_nat h]
  rfl
theorem r_ixL {xs : List D} {k : Nat} {x : D} (h : xs[k]? = some x) : r2 fIx (.lst xs) (.int (k : Nat)) = .ok x := by
  show (match (atI xs (k : Int)).map RV.sh with | some R => Res.ok R.d | none => .stuck) = _
  rw [atI_nat h]
  rfl
theorem r_ixT0 (x : D) (xs : List D) : r2 fIx (.tup (x :: xs)) (.int 0) = .ok x := r_ixT (k := 0) rfl
theorem r_ixL0 (x : D) (xs : List D) : r2 fIx (.lst (x :: xs)) (.int 0) = .ok x := r_ixL (k := 0) rfl
theorem r_lenT (xs : List D) : rN fLen [.tup xs] = .ok (.int (xs.length : Nat)) := rfl
theorem r_lenL (xs : List D) : rN fLen [.lst xs] = .ok (.int (xs.length : Nat)) := rfl
theorem r_itT (xs : List D) : rL itS (.tup xs) = .ok xs := rfl
theorem r_itL (xs : List D) : rL itS (.lst xs) = .ok xs := rfl
theorem r_tupL (xs : List D) : rN fTupOf [.lst xs] = .ok (.tup xs) := rfl
theorem r_tupT (xs : List D) : rN fTupOf [.tup xs] = .ok (.tup xs) := rfl
theorem r_lstL (xs : List D) : rN fLstOf [.lst xs] = .ok (.lst xs) := rfl
theorem r_lstT (xs : List D) : rN fLstOf [.tup xs] = .ok (.lst xs) := rfl
theorem r_tupd {xs : List D} (h : xs.length ≤ sizeLine) : rN fTup xs = .ok (.tup xs) := by
  unfold rN
  have : fTup xs = some (.sh (.tup xs)) := if_pos h
  rw [this]
  rfl
theorem r_tup0 : rN fTup [] = .ok (.tup []) := r_tupd (Nat.zero_le _)
theorem r_tup1 (a : D) : rN fTup [a] = .ok (.tup [a]) := r_tupd (show 1 ≤ sizeLine by decide)
theorem r_tup2 (a b : D) : rN fTup [a, b] = .ok (.tup [a, b]) := r_tupd (show 2 ≤ sizeLine by decide)
theorem r_tup3 (a b c : D) : rN fTup [a, b, c] = .ok (.tup [a, b, c]) := r_tupd (show 3 ≤ sizeLine by decide)
theorem r_lstd {xs : List D} (h : xs.length ≤ sizeLine) : rN fLst xs = .ok (.lst xs) := by
  unfold rN
  have : fLst xs = some (.fr (.lst xs)) := if_pos h
  rw [this]
  rfl
theorem r_lst0 : rN fLst [] = .ok (.lst []) := r_lstd (Nat.zero_le _)
theorem r_lst1 (a : D) : rN fLst [a] = .ok (.lst [a]) := r_lstd (show 1 ≤ sizeLine by decide)
theorem r_lst2 (a b : D) : rN fLst [a, b] = .ok (.lst [a, b]) := r_lstd (show 2 ≤ sizeLine by decide)
theorem r_lstS {xs : List D} (h : xs.length ≤ 1000) : rN fLst xs = .ok (.lst xs) := r_lstd (sz (Nat.le_trans h (by decide)))
theorem r_catL {xs ys : List D} (h : xs.length + ys.length ≤ sizeLine) : r2 fAdd (.lst xs) (.lst ys) = .ok (.lst (xs ++ ys)) := by
  unfold r2
  have : fAdd (.lst xs) (.lst ys) = some (.fr (.lst (xs ++ ys))) := if_pos h
  rw [this]
  rfl
theorem r_catT {xs ys : List D} (h : xs.length + ys.length ≤ sizeLine) : r2 fAdd (.tup xs) (.tup ys) = .ok (.tup (xs ++ ys)) := by
  unfold r2
  have : fAdd (.tup xs) (.tup ys) = some (.sh (.tup (xs ++ ys))) := if_pos h
  rw [this]
  rfl
theorem mapGo_eq {α : Type} {f : D → Res D} {mk : α → D} {g : α → D} : ∀ {L : List α}, (∀ x ∈ L, f (mk x) = .ok (g x)) → mapGo f (L.map mk) = .ok (L.map g)
  | [], _ => rfl
  | x :: L, h => by
    rw [List.map_cons, List.map_cons, mapGo, h x List.mem_cons_self]
    show (mapGo f (L.map mk)).bind _ = _
    rw [mapGo_eq fun y hy => h y (List.mem_cons_of_mem _ hy)]
    rfl
theorem szL_ok {l : List D} (h : l.length ≤ sizeLine) : szL l = .ok l := if_pos h
theorem mapR_eq {α : Type} {f : D → Res D} {mk : α → D} {g : α → D} {L : List α} (h : ∀ x ∈ L, f (mk x) = .ok (g x)) (hl : L.length ≤ 16000000) : mapR f (L.map mk) = .ok (L.map g) := by
  unfold mapR
  rw [mapGo_eq h]
  exact szL_ok (by rw [List.length_map]; exact sz hl)
theorem compGo_eq {α : Type} {f : D → Res (Option D)} {mk : α → D} {p : α → Bool} {g : α → D} : ∀ {L : List α}, (∀ x ∈ L, f (mk x) = .ok (if p x = true then some (g x) else none)) → compGo f (L.map mk) = .ok ((L.filter p).map g)
  | [], _ => rfl
  | x :: L, h => by
    have ih := compGo_eq (L := L) fun y hy => h y (List.mem_cons_of_mem _ hy)
    rw [List.map_cons, compGo, h x List.mem_cons_self]
    cases hp : p x with
    | true =>
      rw [List.filter_cons_of_pos hp, List.map_cons]
      show (compGo f (L.map mk)).bind _ = _
      rw [ih]
      rfl
    | false =>
      rw [List.filter_cons_of_neg (by rw [hp]; exact Bool.false_ne_true)]
      exact ih
theorem compR_eq {α : Type} {f : D → Res (Option D)} {mk : α → D} {p : α → Bool} {g : α → D} {L : List α} (h : ∀ x ∈ L, f (mk x) = .ok (if p x = true then some (g x) else none)) (hl : L.length ≤ 16000000) : compR f (L.map mk) = .ok ((L.filter p).map g) := by
  unfold compR
  rw [compGo_eq h]
  exact szL_ok (by rw [List.length_map]; exact sz (Nat.le_trans (List.length_filter_le _ _) hl))
theorem mapSR_eq {α σ : Type} {f : σ → D → Res (D × σ)} {mk : α → D} (P : List D → Prop) (I : σ → Prop) (Q : α → D → Prop) : ∀ {L : List α} {s : σ}, I s → (∀ x ∈ L, ∀ s, I s → ∃ d s', f s (mk x) = .ok (d, s') ∧ I s' ∧ Q x d) →
    ∃ ds s', mapSGo f s (L.map mk) = .ok (ds, s') ∧ I s' ∧ ds.length = L.length ∧ ∀ p ∈ L.zip ds, Q p.1 p.2
  | [], s, hI, _ => ⟨[], s, rfl, hI, rfl, fun p hp => absurd hp (by simp)⟩
  | x :: L, s, hI, h => by
    obtain ⟨d, s1, e1, h1, q1⟩ := h x List.mem_cons_self s hI
    obtain ⟨ds, s2, e2, h2, l2, q2⟩ := mapSR_eq P I Q (L := L) h1 fun y hy => h y (List.mem_cons_of_mem _ hy)
    refine ⟨d :: ds, s2, ?_, h2, by rw [List.length_cons, List.length_cons, l2], fun p hp => ?_⟩
    · rw [List.map_cons, mapSGo, e1]
      show (mapSGo f s1 (L.map mk)).bind _ = _
      rw [e2]
      rfl
    · rw [List.zip_cons_cons] at hp
      rcases List.mem_cons.mp hp with rfl | hp
      · exact q1
      · exact q2 p hp
theorem forR_eq {α σ τ : Type} {f : σ → D → Res σ} {mk : α → D} (en : τ → σ) (g : τ → α → τ) : ∀ {L : List α} {s : τ}, (∀ x ∈ L, ∀ s, f (en s) (mk x) = .ok (en (g s x))) → forR f (en s) (L.map mk) = .ok (en (L.foldl g s))
  | [], s, _ => rfl
  | x :: L, s, h => by
    rw [List.map_cons, forR, h x List.mem_cons_self]
    exact forR_eq en g fun y hy => h y (List.mem_cons_of_mem _ hy)
/-! ### ranges, truths of lists -/
def irange (lo : Int) (n : Nat) : List Int := (List.range n).map fun (k : Nat) => lo + (k : Int)
theorem rgD_zero (n : Nat) : rgD 0 n = (List.range n).map fun (k : Nat) => D.int (k : Nat) := by
  unfold rgD
  apply List.map_congr_left
  intro k _
  rw [Int.zero_add]
theorem rgD_nat (a n : Nat) : rgD (a : Nat) n = (List.range n).map fun (k : Nat) => D.int ((a + k : Nat) : Int) := by
  unfold rgD
  apply List.map_congr_left
  intro k _
  rw [Int.natCast_add]
theorem rgOk_nat {n : Nat} (h : n < 1000000000) : rgOk ((n : Nat) : Int) = true := by
  unfold rgOk
  rw [decide_eq_true (show -(2 ^ 62) ≤ ((n : Nat) : Int) by omega), decide_eq_true (show ((n : Nat) : Int) < 2 ^ 62 by omega)]
  rfl
theorem rLN_of {f : List D → Option (List D)} {ds l : List D} (h : f ds = some l) : rLN f ds = .ok l := by
  unfold rLN
  rw [h]
theorem rg1_some {n : Nat} (hk : rgOk ((n : Nat) : Int) = true) : rg1 [.int (n : Nat)] = some (rgD 0 n) := by
  show (if rgOk (n : Int) = true then some (rgD 0 ((n : Nat) : Int).toNat) else none) = _
  rw [hk]
  rfl
theorem rg1_ok {n : Nat} (h : n < 1000000000) : rLN rg1 [.int (n : Nat)] = .ok ((List.range n).map fun (k : Nat) => D.int (k : Nat)) := by
  rw [rLN_of (rg1_some (rgOk_nat h)), rgD_zero]
theorem rg2_some {a b : Nat} (h1 : rgOk ((a : Nat) : Int) = true) (h2 : rgOk ((b : Nat) : Int) = true) : rg2 [.int (a : Nat), .int (b : Nat)] = some (rgD (a : Nat) (b - a)) := by
  show (if rgOk (a : Int) = true ∧ rgOk (b : Int) = true then some (rgD (a : Int) ((b : Int) - (a : Int)).toNat) else none) = _
  rw [if_pos ⟨h1, h2⟩, show ((b : Int) - (a : Int)).toNat = b - a by omega]
theorem rg2_ok {a b : Nat} (ha : a < 1000000000) (hb : b < 1000000000) : rLN rg2 [.int (a : Nat), .int (b : Nat)] = .ok ((List.range (b - a)).map fun (k : Nat) => D.int ((a + k : Nat) : Int)) := by
  rw [rLN_of (rg2_some (rgOk_nat ha) (rgOk_nat hb)), rgD_nat]
theorem bls_map {α : Type} (q : α → Bool) : ∀ L : List α, bls (L.map fun x => D.bl (q x)) = some (L.map q)
  | [] => rfl
  | x :: L => by
    show (bls (L.map fun x => D.bl (q x))).map (q x :: ·) = _
    rw [bls_map q L]
    rfl
theorem r_all {α : Type} (q : α → Bool) (L : List α) : rN fAll [.lst (L.map fun x => D.bl (q x))] = .ok (.bl (L.all q)) := by
  unfold rN
  have : fAll [.lst (L.map fun x => D.bl (q x))] = some (.sh (.bl (L.all q))) := by
    show (bls (L.map fun x => D.bl (q x))).map (fun bs => RV.sh (.bl (bs.all id))) = _
    rw [bls_map, Option.map_some, List.all_map]
    rfl
  rw [this]
  rfl
theorem r_any {α : Type} (q : α → Bool) (L : List α) : rN fAny [.lst (L.map fun x => D.bl (q x))] = .ok (.bl (L.any q)) := by
  unfold rN
  have : fAny [.lst (L.map fun x => D.bl (q x))] = some (.sh (.bl (L.any q))) := by
    show (bls (L.map fun x => D.bl (q x))).map (fun bs => RV.sh (.bl (bs.any id))) = _
    rw [bls_map, Option.map_some, List.any_map]
    rfl
  rw [this]
  rfl
theorem intsD_of : ∀ ns : List Int, intsD (ns.map .int) = some ns
  | [] => rfl
  | n :: ns => by
    show (intsD (ns.map .int)).map (n :: ·) = _
    rw [intsD_of ns]
    rfl
theorem r_sumL (ns : List Int) : rN fSum [.lst (ns.map .int)] = .ok (.int ns.sum) := by
  unfold rN
  have : fSum [.lst (ns.map .int)] = some (.sh (.int ns.sum)) := by
    show (intsD (ns.map .int)).map (fun ns => RV.sh (.int ns.sum)) = _
    rw [intsD_of]
    rfl
  rw [this]
  rfl
theorem zipD_LL (xs ys : List D) : rLN zipD [.lst xs, .lst ys] = .ok ((xs.zip ys).map pairD) := rfl
theorem zipD_TT (xs ys : List D) : rLN zipD [.tup xs, .tup ys] = .ok ((xs.zip ys).map pairD) := rfl
theorem enumD_T (xs : List D) : rLN enumD [.tup xs] = .ok (enumL xs) := rfl
theorem enumD_L (xs : List D) : rLN enumD [.lst xs] = .ok (enumL xs) := rfl
theorem enum_map {α : Type} (mk : α → D) (L : List α) : enumL (L.map mk) = L.zipIdx.map fun p => D.tup [.int (p.2 : Nat), mk p.1] := by
  unfold enumL
  rw [List.zipIdx_map, List.map_map]
  rfl
theorem zip_maps {α β : Type} (f : α → D) (g : β → D) (xs : List α) (ys : List β) : ((xs.map f).zip (ys.map g)).map pairD = (xs.zip ys).map fun p => D.tup [f p.1, g p.2] := by
  rw [List.zip_map, List.map_map]
  rfl
theorem un2_tup {γ : Type} (a b : D) (k : D → D → Res γ) : un2 (.tup [a, b]) k = k a b := rfl
theorem un3_tup {γ : Type} (a b c : D) (k : D → D → D → Res γ) : un3 (.tup [a, b, c]) k = k a b c := rfl
theorem repD_one (d : D) : ∀ m : Nat, repD [d] m = List.replicate m d := fun m => by
  unfold repD
  induction m with
  | zero => rfl
  | succ m ih => rw [List.replicate_succ, List.flatten_cons, ih, List.replicate_succ]; rfl
theorem r_rep {d : D} {n : Nat} (hn : n ≤ 1000) : r2 fMul (.tup [d]) (.int (n : Nat)) = .ok (.tup (List.replicate n d)) := by
  unfold r2
  have : fMul (.tup [d]) (.int (n : Nat)) = some (.sh (.tup (repD [d] n))) := by
    show (if [d].isEmpty = false ∧ (n : Int) ≤ 1000 ∧ -1000 ≤ (n : Int) ∧ [d].length ≤ 1000 then some (RV.sh (.tup (repD [d] (n : Int).toNat))) else none) = _
    rw [if_pos ⟨rfl, by omega, by omega, by rw [List.length_singleton]; omega⟩, Int.toNat_natCast]
  rw [this, repD_one]
  rfl
/-! ### ways -/
theorem intR_i {γ : Type} (i : Int) (r : Int → Res γ) : intR (.int i) r = r i := rfl
theorem lR_l {γ : Type} (xs : List D) (r : Res γ) : lR (.lst xs) r = r := rfl
theorem lstR_l {γ : Type} (xs : List D) (r : List D → Res γ) : lstR (.lst xs) r = r xs := rfl
theorem bR_l {γ : Type} (xs : List D) (r : Res γ) : bR (.lst xs) r = r := rfl
theorem orB_t {γ : Type} (t : γ) (r : Res γ) : orB true t r = .ok t := rfl
theorem orB_f {γ : Type} (t : γ) (r : Res γ) : orB false t r = r := rfl
theorem andB_t {γ : Type} (t : γ) (r : Res γ) : andB true t r = r := rfl
theorem andB_f {γ : Type} (t : γ) (r : Res γ) : andB false t r = .ok t := rfl
theorem andG_t {γ : Type} (t : γ) (r : Res γ) : andG (.bl true) t r = r := rfl
theorem andG_f {γ : Type} (t : γ) (r : Res γ) : andG (.bl false) t r = .ok t := rfl
/-- a chain of tests none of which holds -/
theorem or_f {t : Bool} {r : Res Bool} (h1 : t = false) (h2 : r = .ok false) : orB t true r = .ok false := by rw [h1, h2]; rfl
theorem and_b {a : Bool} {b : Bool} {r : Res Bool} (h : a = true → r = .ok b) : andB a false r = .ok (a && b) := by
  cases a with
  | true => rw [h rfl]; rfl
  | false => rfl
theorem or_b {a : Bool} {b : Bool} {r : Res Bool} (h : a = false → r = .ok b) : orB a true r = .ok (a || b) := by
  cases a with
  | false => rw [h rfl]; rfl
  | true => rfl
theorem and_d {a : Bool} {b : Bool} {r : Res D} (h : a = true → r = .ok (.bl b)) : andG (.bl a) (.bl false) r = .ok (.bl (a && b)) := by
  cases a with
  | true => rw [h rfl]; rfl
  | false => rfl
theorem bindD {α β : Type} {r : Res α} {a : α} {f : α → Res β} {o : Res β} (h : r = .ok a) (h2 : f a = o) : r.bind f = o := by rw [h]; exact h2
theorem bind_ex {α β : Type} {r : Res α} {x : Xc} {f : α → Res β} (h : r = .ex x) : r.bind f = .ex x := by rw [h]; rfl
theorem whR_step {σ : Type} {c : σ → Res Bool} {f : σ → Res σ} {n : Nat} {s s' : σ} (h1 : c s = .ok true) (h2 : f s = .ok s') : whR c f (n + 1) s = whR c f n s' := by
  rw [whR, h1, Res.ok_bind, if_pos rfl, h2, Res.ok_bind]
theorem whR_end {σ : Type} {c : σ → Res Bool} {f : σ → Res σ} {n : Nat} {s : σ} (h1 : c s = .ok false) : whR c f (n + 1) s = .ok s := by
  rw [whR, h1, Res.ok_bind, if_neg Bool.false_ne_true]
end MM
namespace MM
open PySem PySem.Spec PyProof.Rows L2
/-- a search -/
theorem search_ok {α ρ : Type} {f : Unit → D → Res (Fw Unit ρ)} {mk : α → D} {c : α → Bool} {v : ρ} : ∀ {L : List α}, (∀ x ∈ L, f () (mk x) = .ok (if c x = true then .rt v else .nx ())) → forRF f () (L.map mk) = .ok (if L.any c = true then .rt v else .nx ())
  | [], _ => rfl
  | x :: L, h => by
    rw [List.map_cons, forRF, h x List.mem_cons_self, Res.ok_bind, List.any_cons]
    cases hc : c x with
    | true => rfl
    | false => exact search_ok fun y hy => h y (List.mem_cons_of_mem _ hy)
theorem search_nx {α ρ : Type} {f : Unit → D → Res (Fw Unit ρ)} {mk : α → D} {c : α → Bool} {v : ρ} {L : List α} (hA : L.any c = false) (h : ∀ x ∈ L, f () (mk x) = .ok (if c x = true then .rt v else .nx ())) : forRF f () (L.map mk) = .ok (.nx ()) := by
  rw [search_ok h, hA]
  rfl
theorem search_rt {α ρ : Type} {f : Unit → D → Res (Fw Unit ρ)} {mk : α → D} {c : α → Bool} {v : ρ} {L : List α} (hA : L.any c = true) (h : ∀ x ∈ L, f () (mk x) = .ok (if c x = true then .rt v else .nx ())) : forRF f () (L.map mk) = .ok (.rt v) := by
  rw [search_ok h, hA]
  rfl
theorem search_id {ρ : Type} {f : Unit → D → Res (Fw Unit ρ)} {v : ρ} {L : List D} (h : ∀ x ∈ L, f () x = .ok (if false = true then .rt v else .nx ())) : forRF f () L = .ok (.nx ()) := by
  have := search_nx (mk := fun d : D => d) (c := fun _ => false) (v := v) (L := L) (List.any_eq_false.mpr fun _ _ => Bool.false_ne_true) h
  rw [List.map_id'] at this
  exact this
theorem bd_nx {σ ρ γ : Type} {r : Res (Fw σ ρ)} {s : σ} {inj : ρ → Res γ} {rest : σ → Res γ} {o : Res γ} (h : r = .ok (.nx s)) (h2 : rest s = o) : (r.bind fun w => fwR w inj rest) = o := by rw [h]; exact h2
theorem bd_rt {σ ρ γ : Type} {r : Res (Fw σ ρ)} {c : ρ} {inj : ρ → Res γ} {rest : σ → Res γ} {o : Res γ} (h : r = .ok (.rt c)) (h2 : inj c = o) : (r.bind fun w => fwR w inj rest) = o := by rw [h]; exact h2
theorem callL_of {T : Nat → Option (List D → FO)} {c : Nat} {f : List D → FO} {ds : List D} (h : T c = some f) : callL T (.gl c) ds = foR (f ds) := by
  show (match T c with | some g => foR (g ds) | none => .stuck) = _
  rw [h]
theorem glR_of {γ : Type} {T : Nat → Option (List D → FO)} {c : Nat} {f : List D → FO} {r : Res γ} (h : T c = some f) : glR T (.gl c) r = r := by
  show (match T c with | some _ => r | none => .stuck) = _
  rw [h]
theorem r_len1 (a : D) : rN fLen [.tup [a]] = .ok (.int 1) := rfl
theorem r_len2 (a b : D) : rN fLen [.tup [a, b]] = .ok (.int 2) := rfl
theorem r_len3 (a b c : D) : rN fLen [.tup [a, b, c]] = .ok (.int 3) := rfl
theorem eq_told (x : Str) (hx : PyData.strOk x = true) : r2 (cmp cEq) (.tup [.str x, .non]) (.tup [.str x, .non]) = .ok (.bl true) := by
  have e : toPy (.tup [.str x, .non]) = some (.tuple [.str x, .none]) := by simp [toPy, toPyL]
  have s : SeqAt.shaped (.tuple [.str x, .none]) = true := by simp [SeqAt.shaped, PyData.canLay0, PyData.canLayAll0, PyData.depth, PyData.depthAll, hx]
  have q : cEq (.tup [.str x, .non]) (.tup [.str x, .non]) = some true := by
    unfold cEq
    rw [e]
    show (if SeqAt.shaped (.tuple [.str x, .none]) = true ∧ SeqAt.shaped (.tuple [.str x, .none]) = true then some (PyData.eqv (.tuple [.str x, .none]) (.tuple [.str x, .none])) else none) = _
    rw [if_pos ⟨s, s⟩]
    simp [PyData.eqv, PyData.eqvAll]
  unfold r2 cmp
  rw [q]
  rfl
/-! ### the state of draws -/
def Dst (d : D) : Prop := ∃ s t : Int, d = .lst [.int s, .int t]
theorem Dst.mut {d : D} (h : Dst d) : isMut d = true := by obtain ⟨s, t, rfl⟩ := h; rfl
theorem bR_mut {γ : Type} {d : D} {r : Res γ} (h : isMut d = true) : bR d r = r := if_pos h
theorem mapS_st {α : Type} {f : D → D → Res (D × D)} {mk : α → D} (Q : D → Prop) {L : List α} {s : D} (hs : Dst s) (h : ∀ x ∈ L, ∀ s, Dst s → ∃ d s', f s (mk x) = .ok (d, s') ∧ Dst s' ∧ Q d) (hl : L.length ≤ 16000000) :
    ∃ ds s', mapSR f s (L.map mk) = .ok (ds, s') ∧ Dst s' ∧ ds.length = L.length ∧ ∀ d ∈ ds, Q d := by
  obtain ⟨ds, s', e, h1, h2, h3⟩ := mapSR_eq (f := f) (mk := mk) (fun _ => True) Dst (fun _ d => Q d) hs h
  refine ⟨ds, s', ?_, h1, h2, fun d hd => ?_⟩
  · unfold mapSR
    rw [e, Res.ok_bind]
    exact if_pos (by show ds.length ≤ sizeLine; rw [h2]; exact sz hl)
  · obtain ⟨i, hi, rfl⟩ := List.getElem_of_mem hd
    have : (L[i]'(by omega), ds[i]) ∈ L.zip ds := by
      rw [List.mem_iff_getElem]
      exact ⟨i, by rw [List.length_zip]; omega, by rw [List.getElem_zip]⟩
    exact h3 _ this
end MM

/-! SP: rows of integers: slim rows, leads, least rows, spans; plain Lean. -/
namespace SP
open PySem PySem.Spec PyProof.Rows L2 MM
abbrev Row := List Int
def rw (r : Row) : D := .tup (r.map .int)
def gF (g : Nat) (c : Int) : Nat := Int.gcd g c
def gcdR (r : Row) : Nat := r.foldl gF 0
theorem gF_one : ∀ row : List Int, row.foldl gF 1 = 1
  | [] => rfl
  | c :: row => by
    rw [List.foldl_cons, show gF 1 c = 1 from Nat.gcd_one_left _]
    exact gF_one row
def Bd (b : Nat) (r : Row) : Prop := ∀ c ∈ r, c.natAbs < 2 ^ b
theorem Bd.mono {b b' : Nat} {r : Row} (h : Bd b r) (hb : b ≤ b') : Bd b' r := fun c hc => Nat.lt_of_lt_of_le (h c hc) (Nat.pow_le_pow_right (by decide) hb)
def nz (c : Int) : Bool := !(c == 0)
def fstNZ (r : Row) : Int := (r.filter nz).headD 0
def sgnG (r : Row) : Int := if fstNZ r < 0 then -(gcdR r : Int) else gcdR r
def slimR (r : Row) : Row := if gcdR r = 0 then r else r.map fun c => c.fdiv (sgnG r)
theorem gF_dvd : ∀ (r : Row) (g : Nat), r.foldl gF g ∣ g ∧ ∀ c ∈ r, r.foldl gF g ∣ c.natAbs
  | [], g => ⟨Nat.dvd_refl _, fun c hc => absurd hc (by simp)⟩
  | c :: r, g => by
    obtain ⟨h1, h2⟩ := gF_dvd r (gF g c)
    rw [List.foldl_cons]
    refine ⟨Nat.dvd_trans h1 (Nat.gcd_dvd_left _ _), fun x hx => ?_⟩
    rcases List.mem_cons.mp hx with rfl | hx
    · exact Nat.dvd_trans h1 (Nat.gcd_dvd_right _ _)
    · exact h2 x hx
theorem gcdR_dvd (r : Row) : ∀ c ∈ r, gcdR r ∣ c.natAbs := (gF_dvd r 0).2
theorem gF_great (m : Nat) : ∀ (r : Row) (g : Nat), m ∣ g → (∀ c ∈ r, m ∣ c.natAbs) → m ∣ r.foldl gF g
  | [], g, h, _ => h
  | c :: r, g, h, hr => by
    rw [List.foldl_cons]
    exact gF_great m r _ (Nat.dvd_gcd h (hr c List.mem_cons_self)) fun x hx => hr x (List.mem_cons_of_mem _ hx)
theorem gcdR_great (m : Nat) (r : Row) (h : ∀ c ∈ r, m ∣ c.natAbs) : m ∣ gcdR r := gF_great m r 0 (Nat.dvd_zero _) h
theorem gcdR_zero {r : Row} : gcdR r = 0 ↔ ∀ c ∈ r, c = 0 := by
  constructor
  · intro h c hc
    have := gcdR_dvd r c hc
    rw [h] at this
    have := Nat.eq_zero_of_zero_dvd this
    omega
  · intro h
    have := gcdR_great 0 r fun c hc => by rw [h c hc]; exact Nat.dvd_refl _
    exact Nat.eq_zero_of_zero_dvd this
theorem nz_row {r : Row} (h : gcdR r ≠ 0) : ∃ c rest, r.filter nz = c :: rest ∧ c ≠ 0 ∧ c ∈ r := by
  cases e : r.filter nz with
  | nil =>
    exfalso
    refine h (gcdR_zero.mpr fun c hc => ?_)
    have := List.filter_eq_nil_iff.mp e c hc
    unfold nz at this
    simpa using this
  | cons c rest =>
    have hm : c ∈ r.filter nz := by rw [e]; exact List.mem_cons_self
    obtain ⟨h1, h2⟩ := List.mem_filter.mp hm
    unfold nz at h2
    exact ⟨c, rest, rfl, by simpa using h2, h1⟩
theorem gcdR_lt {b : Nat} {r : Row} (h : Bd b r) : gcdR r < 2 ^ b := by
  by_cases h0 : gcdR r = 0
  · rw [h0]; exact Nat.two_pow_pos b
  · obtain ⟨c, rest, _, hc, hm⟩ := nz_row h0
    exact Nat.lt_of_le_of_lt (Nat.le_of_dvd (by omega) (gcdR_dvd r c hm)) (h c hm)
def leadR : Row → Nat
  | [] => 0
  | c :: r => if c = 0 then leadR r + 1 else 0
def lcR (a b : Int) (x y : Row) : Row := List.zipWith (fun p q => a * p - b * q) x y
def at0 (r : Row) (k : Nat) : Int := r.getD k 0
def clearR (row lead : Row) (k : Nat) : Row := if at0 row k = 0 then row else slimR (lcR (at0 lead k) (at0 row k) row lead)
theorem at0_get {r : Row} {k : Nat} (h : k < r.length) : (r.map D.int)[k]? = some (.int (at0 r k)) := by
  unfold at0
  rw [List.getElem?_map, List.getD_eq_getElem?_getD, List.getElem?_eq_getElem h]
  rfl
theorem at0_bd {b : Nat} {r : Row} (h : Bd b r) (k : Nat) : (at0 r k).natAbs < 2 ^ b := by
  unfold at0
  rw [List.getD_eq_getElem?_getD]
  cases e : r[k]? with
  | none => exact Nat.two_pow_pos b
  | some c => exact h c (List.mem_of_getElem? e)
theorem lc_bd {a b u v : Int} {p q : Nat} (ha : a.natAbs < 2 ^ p) (hu : u.natAbs < 2 ^ q) (hb : b.natAbs < 2 ^ q) (hv : v.natAbs < 2 ^ p) : (a * u - b * v).natAbs < 2 ^ (p + q + 1) := by
  have h1 : (a * u).natAbs < 2 ^ (p + q) := by
    rw [Int.natAbs_mul, Nat.pow_add]
    exact Nat.mul_lt_mul'' ha hu
  have h2 : (b * v).natAbs < 2 ^ (p + q) := by
    rw [Int.natAbs_mul, Nat.add_comm, Nat.pow_add]
    exact Nat.mul_lt_mul'' hb hv
  rw [Nat.pow_succ]
  omega
theorem lcR_bd {a b : Int} {p q : Nat} (ha : a.natAbs < 2 ^ p) (hb : b.natAbs < 2 ^ q) : ∀ {x y : Row}, Bd q x → Bd p y → Bd (p + q + 1) (lcR a b x y)
  | [], _, _, _ => fun c hc => absurd hc (by simp [lcR])
  | _ :: _, [], _, _ => fun c hc => absurd hc (by simp [lcR])
  | u :: x, v :: y, hx, hy => fun c hc => by
    unfold lcR at hc
    rw [List.zipWith_cons_cons] at hc
    rcases List.mem_cons.mp hc with rfl | hc
    · exact lc_bd ha (hx u List.mem_cons_self) hb (hy v List.mem_cons_self)
    · exact lcR_bd ha hb (fun z hz => hx z (List.mem_cons_of_mem _ hz)) (fun z hz => hy z (List.mem_cons_of_mem _ hz)) c hc
theorem fdiv_le (c g : Int) (h : g ∣ c) : (c.fdiv g).natAbs ≤ c.natAbs := by
  obtain ⟨k, rfl⟩ := h
  by_cases hg : g = 0
  · subst hg
    rw [Int.zero_mul, Int.fdiv_zero]
    exact Nat.le_refl _
  · rw [Int.mul_fdiv_cancel_left _ hg, Int.natAbs_mul]
    exact Nat.le_mul_of_pos_left _ (by omega)
theorem sgnG_dvd (r : Row) : ∀ c ∈ r, sgnG r ∣ c := fun c hc => by
  have h := gcdR_dvd r c hc
  have h2 : (gcdR r : Int) ∣ c := Int.ofNat_dvd_left.mpr h
  unfold sgnG
  split
  · exact Int.neg_dvd.mpr h2
  · exact h2
theorem slim_bd {b : Nat} {r : Row} (h : Bd b r) : Bd b (slimR r) := by
  unfold slimR
  split
  · exact h
  · intro c hc
    obtain ⟨x, hx, rfl⟩ := List.mem_map.mp hc
    exact Nat.lt_of_le_of_lt (fdiv_le x _ (sgnG_dvd r x hx)) (h x hx)
theorem slim_len (r : Row) : (slimR r).length = r.length := by
  unfold slimR
  split
  · rfl
  · rw [List.length_map]
theorem clear_len {row lead : Row} (k : Nat) (h : row.length = lead.length) : (clearR row lead k).length = row.length := by
  unfold clearR
  split
  · rfl
  · rw [slim_len]
    unfold lcR
    rw [List.length_zipWith, h, Nat.min_self]
theorem clear_bd {p q : Nat} {row lead : Row} (k : Nat) (h1 : Bd q row) (h2 : Bd p lead) : Bd (p + q + 1) (clearR row lead k) := by
  unfold clearR
  split
  · exact h1.mono (by omega)
  · exact slim_bd (lcR_bd (at0_bd h2 k) (at0_bd h1 k) h1 h2)
theorem zip_lc (a b : Int) : ∀ x y : Row, (x.zip y).map (fun z : Int × Int => D.int (a * z.1 - b * z.2)) = (lcR a b x y).map .int
  | [], _ => rfl
  | _ :: _, [] => rfl
  | u :: x, v :: y => by
    unfold lcR
    rw [List.zip_cons_cons, List.zipWith_cons_cons, List.map_cons, List.map_cons, zip_lc a b x y]
    rfl
def restR (row : Row) (sp : List Row) : Row := sp.foldl (fun own lead => clearR own lead (leadR lead)) row
def pickK (left : List Row) (k : Nat) : List (Row × Nat) := left.zipIdx.filter fun p => nz (at0 p.1 k)
def stepS (n : Nat) (s : List Row × List Row) (k : Nat) : List Row × List Row := match pickK s.1 k with
  | [] => s
  | (r, i) :: _ => (((s.1.eraseIdx i).map fun x => clearR x r k).filter fun x => decide (leadR x < n), (s.2.map fun x => clearR x r k) ++ [r])
def startS (L : List Row) (n : Nat) : List Row × List Row := ((L.filter fun x => decide (leadR x < n)).map slimR, [])
def spaceR (L : List Row) (n : Nat) : List Row := (((List.range n).foldl (stepS n) (startS L n)).2).map slimR
/-- rows of n numbers of so many bits -/
def Rws (n b : Nat) (L : List Row) : Prop := L.length ≤ 1000 ∧ ∀ r ∈ L, r.length = n ∧ Bd b r
theorem Rws.mono {n b b' : Nat} {L : List Row} (h : Rws n b L) (hb : b ≤ b') : Rws n b' L := ⟨h.1, fun r hr => ⟨(h.2 r hr).1, (h.2 r hr).2.mono hb⟩⟩
theorem Rws.sub {n b : Nat} {L L' : List Row} (h : Rws n b L) (hl : L'.length ≤ L.length) (hm : ∀ r ∈ L', r ∈ L) : Rws n b L' := ⟨Nat.le_trans hl h.1, fun r hr => h.2 r (hm r hr)⟩
theorem Rws.clear {n b : Nat} {L : List Row} (h : Rws n b L) {r : Row} (k : Nat) (hr : r.length = n ∧ Bd b r) : Rws n (b + b + 1) (L.map fun x => clearR x r k) :=
  ⟨by rw [List.length_map]; exact h.1, fun y hy => by
    obtain ⟨x, hx, rfl⟩ := List.mem_map.mp hy
    obtain ⟨h1, h2⟩ := h.2 x hx
    exact ⟨by rw [clear_len _ (by omega)]; exact h1, clear_bd k h2 hr.2⟩⟩
theorem pick_mem {left : List Row} {k : Nat} {p : Row × Nat} (h : p ∈ pickK left k) : left[p.2]? = some p.1 ∧ at0 p.1 k ≠ 0 := by
  obtain ⟨h1, h2⟩ := List.mem_filter.mp h
  refine ⟨List.mem_zipIdx_iff_getElem?.mp h1, ?_⟩
  unfold nz at h2
  simpa using h2
def GoodS (n b : Nat) (s : List Row × List Row) : Prop := Rws n b s.1 ∧ Rws n b s.2 ∧ s.1.length + s.2.length ≤ 1000
theorem step_good {n b : Nat} {s : List Row × List Row} (k : Nat) (h : GoodS n b s) : GoodS n (b + b + 1) (stepS n s k) := by
  obtain ⟨h1, h2, h3⟩ := h
  unfold stepS
  cases e : pickK s.1 k with
  | nil => exact ⟨h1.mono (by omega), h2.mono (by omega), h3⟩
  | cons p rest =>
    obtain ⟨r, i⟩ := p
    obtain ⟨m1, m2⟩ := pick_mem (show (r, i) ∈ pickK s.1 k by rw [e]; exact List.mem_cons_self)
    have hr := h1.2 r (List.mem_of_getElem? m1)
    have hi : i < s.1.length := (List.getElem?_eq_some_iff.mp m1).1
    have hle : (s.1.eraseIdx i).length = s.1.length - 1 := List.length_eraseIdx_of_lt hi
    have he : Rws n b (s.1.eraseIdx i) := h1.sub (by omega) fun x hx => List.mem_of_mem_eraseIdx hx
    have hf := (he.clear k hr).sub (L' := ((s.1.eraseIdx i).map fun x => clearR x r k).filter fun x => decide (leadR x < n)) (List.length_filter_le _ _) fun x hx => (List.mem_filter.mp hx).1
    have hl1 : (((s.1.eraseIdx i).map fun x => clearR x r k).filter fun x => decide (leadR x < n)).length ≤ s.1.length - 1 := by
      refine Nat.le_trans (List.length_filter_le _ _) ?_
      rw [List.length_map]
      omega
    refine ⟨hf, ⟨by rw [List.length_append, List.length_map, List.length_singleton]; omega, fun y hy => ?_⟩, ?_⟩
    · rcases List.mem_append.mp hy with hy | hy
      · exact (h2.clear k hr).2 y hy
      · rw [List.mem_singleton.mp hy]
        exact ⟨hr.1, hr.2.mono (by omega)⟩
    · show (((s.1.eraseIdx i).map fun x => clearR x r k).filter fun x => decide (leadR x < n)).length + ((s.2.map fun x => clearR x r k) ++ [r]).length ≤ 1000
      rw [List.length_append, List.length_map, List.length_singleton]
      omega
theorem fold_good (n : Nat) : ∀ (ks : List Nat) (b : Nat) (s : List Row × List Row), GoodS n b s → ∃ b', b' + 1 = 2 ^ ks.length * (b + 1) ∧ GoodS n b' (ks.foldl (stepS n) s)
  | [], b, s, h => ⟨b, by rw [List.length_nil, Nat.pow_zero, Nat.one_mul], h⟩
  | k :: ks, b, s, h => by
    obtain ⟨b', e, g⟩ := fold_good n ks (b + b + 1) (stepS n s k) (step_good k h)
    refine ⟨b', ?_, g⟩
    rw [e, List.length_cons, Nat.pow_succ, show b + b + 1 + 1 = 2 * (b + 1) by omega, Nat.mul_assoc]
def lclear (n : Nat) (lead : Row) (k : Nat) (x : Row) : Row := slimR (lcR (at0 lead k) (at0 x k) x lead)
def leastS (n : Nat) (s : List Row × List Row) (k : Nat) : List Row × List Row := match s.1.filter fun x => nz (at0 x k) with
  | [] => s
  | r :: _ => (s.1.map (lclear n r k), s.2.map (lclear n r k) ++ [slimR r])
def leastR (L : List Row) (n : Nat) : List Row := ((List.range n).foldl (leastS n) (L, [])).2
theorem lclear_len {n : Nat} {lead x : Row} (k : Nat) (h1 : x.length = n) (h2 : lead.length = n) : (lclear n lead k x).length = n := by
  unfold lclear
  rw [slim_len]
  unfold lcR
  rw [List.length_zipWith]
  omega
theorem lclear_bd {n p q : Nat} {lead x : Row} (k : Nat) (h1 : Bd q x) (h2 : Bd p lead) : Bd (p + q + 1) (lclear n lead k x) := slim_bd (lcR_bd (at0_bd h2 k) (at0_bd h1 k) h1 h2)
theorem leastS_good {n b : Nat} {s : List Row × List Row} (k : Nat) (h : Rws n b s.1 ∧ Rws n b s.2 ∧ s.2.length ≤ k) (hk : k < 256) : Rws n (b + b + 1) (leastS n s k).1 ∧ Rws n (b + b + 1) (leastS n s k).2 ∧ (leastS n s k).2.length ≤ k + 1 := by
  obtain ⟨h1, h2, h3⟩ := h
  unfold leastS
  cases e : s.1.filter fun x => nz (at0 x k) with
  | nil => exact ⟨h1.mono (by omega), h2.mono (by omega), Nat.le_succ_of_le h3⟩
  | cons r rest =>
    have hr := h1.2 r (List.mem_filter.mp (show r ∈ s.1.filter fun x => nz (at0 x k) by rw [e]; exact List.mem_cons_self)).1
    have cl : ∀ {L : List Row}, Rws n b L → ∀ y ∈ L.map (lclear n r k), y.length = n ∧ Bd (b + b + 1) y := fun hL y hy => by
      obtain ⟨x, hx, rfl⟩ := List.mem_map.mp hy
      obtain ⟨x1, x2⟩ := hL.2 x hx
      exact ⟨lclear_len k x1 hr.1, lclear_bd k x2 hr.2⟩
    refine ⟨⟨by rw [List.length_map]; exact h1.1, cl h1⟩, ⟨by rw [List.length_append, List.length_map, List.length_singleton]; omega, fun y hy => ?_⟩, by rw [List.length_append, List.length_map, List.length_singleton]; omega⟩
    rcases List.mem_append.mp hy with hy | hy
    · exact cl h2 y hy
    · rw [List.mem_singleton.mp hy]
      exact ⟨by rw [slim_len]; exact hr.1, (slim_bd hr.2).mono (by omega)⟩
theorem least_bd (n : Nat) : ∀ (m lo b : Nat) (s : List Row × List Row), lo + m ≤ 256 → Rws n b s.1 ∧ Rws n b s.2 ∧ s.2.length ≤ lo → ∃ b', b' + 1 = 2 ^ m * (b + 1) ∧ Rws n b' ((List.range' lo m).foldl (leastS n) s).2 ∧ ((List.range' lo m).foldl (leastS n) s).2.length ≤ lo + m
  | 0, lo, b, s, _, g => ⟨b, by omega, g.2.1, g.2.2⟩
  | m + 1, lo, b, s, h, g => by
    obtain ⟨b', e, g1, g2⟩ := least_bd n m (lo + 1) (b + b + 1) (leastS n s lo) (by omega) (leastS_good lo g (by omega))
    refine ⟨b', ?_, by rw [List.range'_succ, List.foldl_cons]; exact g1, by rw [List.range'_succ, List.foldl_cons]; omega⟩
    rw [e, Nat.pow_succ, show b + b + 1 + 1 = 2 * (b + 1) by omega, Nat.mul_assoc]
def places (r : Row) : List Nat := (List.range r.length).filter fun k => nz (at0 r k)
theorem at0_cons (c : Int) (r : Row) (k : Nat) : at0 (c :: r) (k + 1) = at0 r k := by
  unfold at0
  rw [List.getD_cons_succ]
theorem places_cons (c : Int) (r : Row) : places (c :: r) = if c = 0 then (places r).map (· + 1) else 0 :: (places r).map (· + 1) := by
  unfold places
  rw [List.length_cons, List.range_succ_eq_map, List.filter_cons, List.filter_map]
  have e : ((fun k => nz (at0 (c :: r) k)) ∘ Nat.succ) = fun k => nz (at0 r k) := by
    funext k
    show nz (at0 (c :: r) (k + 1)) = _
    rw [at0_cons]
  rw [e]
  have e0 : at0 (c :: r) 0 = c := rfl
  rw [e0]
  by_cases h : c = 0
  · subst h
    first | rfl | skip
  · have : nz c = true := by unfold nz; simp [h]
    rw [if_pos this, if_neg h]
theorem places_lead : ∀ r : Row, (places r).headD r.length = leadR r
  | [] => rfl
  | c :: r => by
    rw [places_cons]
    by_cases h : c = 0
    · rw [if_pos h, leadR, if_pos h, ← places_lead r, List.length_cons]
      cases places r <;> rfl
    · rw [if_neg h, leadR, if_neg h]
      rfl
def pr (r : Row) : PyData := .tuple (r.map .int)
theorem toPy_row : ∀ r : Row, toPyL (r.map .int) = some (r.map PyData.int)
  | [] => by rw [List.map_nil, List.map_nil, toPyL]
  | c :: r => by
    rw [List.map_cons, List.map_cons, toPyL, toPy_row r]
    simp only [toPy]
theorem toPy_rw (r : Row) : toPy (rw r) = some (pr r) := by
  unfold rw
  rw [toPy, toPy_row]
  rfl
theorem toPy_rws : ∀ L : List Row, toPyL (L.map rw) = some (L.map pr)
  | [] => by rw [List.map_nil, List.map_nil, toPyL]
  | r :: L => by
    rw [List.map_cons, List.map_cons, toPyL, toPy_rws L, toPy_rw]
theorem lay_row : ∀ r : Row, PyData.canLayAll0 (r.map .int) = true
  | [] => by rw [List.map_nil, PyData.canLayAll0]
  | c :: r => by rw [List.map_cons, PyData.canLayAll0, lay_row r]; simp only [PyData.canLay0, Bool.and_self]
theorem dep_row : ∀ r : Row, PyData.depthAll (r.map .int) = 0
  | [] => by rw [List.map_nil, PyData.depthAll]
  | c :: r => by rw [List.map_cons, PyData.depthAll, dep_row r]; simp only [PyData.depth, Nat.max_self]
theorem lay_pr (r : Row) : (pr r).canLay0 = true := by
  unfold pr
  rw [PyData.canLay0]
  exact lay_row r
theorem dep_pr (r : Row) : (pr r).depth = 1 := by
  unfold pr
  rw [PyData.depth, dep_row]
theorem lay_rows : ∀ L : List Row, PyData.canLayAll0 (L.map pr) = true
  | [] => by rw [List.map_nil, PyData.canLayAll0]
  | r :: L => by rw [List.map_cons, PyData.canLayAll0, lay_rows L, lay_pr]; rfl
theorem dep_rows : ∀ L : List Row, PyData.depthAll (L.map pr) ≤ 1
  | [] => by rw [List.map_nil, PyData.depthAll]; exact Nat.zero_le _
  | r :: L => by
    rw [List.map_cons, PyData.depthAll, dep_pr]
    have := dep_rows L
    omega
theorem eqv_row : ∀ x y : Row, PyData.eqvAll (x.map .int) (y.map .int) = decide (x = y)
  | [], [] => by simp [PyData.eqvAll]
  | [], _ :: _ => by simp [PyData.eqvAll]
  | _ :: _, [] => by simp [PyData.eqvAll]
  | a :: x, b :: y => by
    rw [List.map_cons, List.map_cons, PyData.eqvAll, eqv_row x y, PyData.eqv]
    by_cases h : a = b
    · subst h; simp
    · simp [h]
theorem eqv_rows : ∀ L L' : List Row, PyData.eqvAll (L.map pr) (L'.map pr) = decide (L = L')
  | [], [] => by simp [PyData.eqvAll]
  | [], _ :: _ => by simp [PyData.eqvAll]
  | _ :: _, [] => by simp [PyData.eqvAll]
  | a :: x, b :: y => by
    rw [List.map_cons, List.map_cons, PyData.eqvAll, eqv_rows x y]
    have : PyData.eqv (pr a) (pr b) = decide (a = b) := by
      unfold pr
      rw [PyData.eqv]
      exact eqv_row a b
    rw [this]
    by_cases h : a = b
    · subst h; simp
    · simp [h]
theorem cEq_rw (x y : Row) : cEq (rw x) (rw y) = some (decide (x = y)) := by
  unfold cEq
  rw [toPy_rw, toPy_rw]
  have s : ∀ r : Row, SeqAt.shaped (pr r) = true := fun r => by
    unfold SeqAt.shaped
    rw [lay_pr, dep_pr]
    rfl
  show (if SeqAt.shaped (pr x) = true ∧ SeqAt.shaped (pr y) = true then some (PyData.eqv (pr x) (pr y)) else none) = _
  rw [if_pos ⟨s x, s y⟩]
  unfold pr
  rw [PyData.eqv, eqv_row]
theorem cEq_rows (L L' : List Row) : cEq (.tup (L.map rw)) (.tup (L'.map rw)) = some (decide (L = L')) := by
  have t : ∀ L : List Row, toPy (.tup (L.map rw)) = some (.tuple (L.map pr)) := fun L => by
    rw [toPy, toPy_rws]
    rfl
  have s : ∀ L : List Row, SeqAt.shaped (.tuple (L.map pr)) = true := fun L => by
    unfold SeqAt.shaped
    rw [PyData.canLay0, lay_rows, PyData.depth, decide_eq_true (by have := dep_rows L; omega)]
    rfl
  unfold cEq
  rw [t, t]
  show (if SeqAt.shaped (.tuple (L.map pr)) = true ∧ SeqAt.shaped (.tuple (L'.map pr)) = true then some (PyData.eqv (.tuple (L.map pr)) (.tuple (L'.map pr))) else none) = _
  rw [if_pos ⟨s L, s L'⟩, PyData.eqv, eqv_rows]
/-- v lies in the rational span of A (rows of n numbers) -/
inductive Sp (n : Nat) (A : List Row) : Row → Prop where
  | zero : Sp n A (List.replicate n 0)
  | mem {r : Row} : r ∈ A → Sp n A r
  | comb (a b : Int) {x y : Row} : Sp n A x → Sp n A y → Sp n A (lcR a b x y)
  | div (c : Int) {x : Row} : c ≠ 0 → Sp n A (x.map (c * ·)) → Sp n A x
theorem lcR_len {n : Nat} {a b : Int} {x y : Row} (hx : x.length = n) (hy : y.length = n) : (lcR a b x y).length = n := by
  unfold lcR
  rw [List.length_zipWith]
  omega
theorem Sp.len {n : Nat} {A : List Row} (hA : ∀ r ∈ A, r.length = n) {v : Row} (h : Sp n A v) : v.length = n := by
  induction h with
  | zero => exact List.length_replicate
  | mem h => exact hA _ h
  | comb a b _ _ h1 h2 => exact lcR_len h1 h2
  | div c hc _ h => rw [List.length_map] at h; exact h
theorem Sp.trans {n : Nat} {A B : List Row} (hAB : ∀ r ∈ A, Sp n B r) {v : Row} (h : Sp n A v) : Sp n B v := by
  induction h with
  | zero => exact .zero
  | mem h => exact hAB _ h
  | comb a b _ _ h1 h2 => exact .comb a b h1 h2
  | div c hc _ h => exact .div c hc h
theorem Sp.mono {n : Nat} {A B : List Row} (hAB : ∀ r ∈ A, r ∈ B) {v : Row} (h : Sp n A v) : Sp n B v := h.trans fun r hr => .mem (hAB r hr)
theorem at0_lcR {n : Nat} {a b : Int} {x y : Row} (hx : x.length = n) (hy : y.length = n) (k : Nat) : at0 (lcR a b x y) k = a * at0 x k - b * at0 y k := by
  unfold at0 lcR
  rw [List.getD_eq_getElem?_getD, List.getD_eq_getElem?_getD, List.getD_eq_getElem?_getD, List.getElem?_zipWith]
  by_cases hk : k < n
  · rw [List.getElem?_eq_getElem (by omega : k < x.length), List.getElem?_eq_getElem (by omega : k < y.length)]
    rfl
  · rw [List.getElem?_eq_none (by omega : x.length ≤ k), List.getElem?_eq_none (by omega : y.length ≤ k)]
    simp
theorem at0_scale (c : Int) (x : Row) (k : Nat) : at0 (x.map (c * ·)) k = c * at0 x k := by
  unfold at0
  rw [List.getD_eq_getElem?_getD, List.getD_eq_getElem?_getD, List.getElem?_map]
  cases x[k]? with
  | none => simp
  | some z => rfl
theorem at0_zero (n k : Nat) : at0 (List.replicate n 0) k = 0 := by
  unfold at0
  rw [List.getD_eq_getElem?_getD, List.getElem?_replicate]
  split <;> rfl
theorem row_ext {n : Nat} {x y : Row} (hx : x.length = n) (hy : y.length = n) (h : ∀ k < n, at0 x k = at0 y k) : x = y := by
  refine List.ext_getElem (by omega) fun k h1 h2 => ?_
  have := h k (by omega)
  unfold at0 at this
  rw [List.getD_eq_getElem?_getD, List.getD_eq_getElem?_getD, List.getElem?_eq_getElem h1, List.getElem?_eq_getElem h2] at this
  exact this
/-- what is linear and vanishes on A vanishes on its span -/
theorem Sp.lin {n : Nat} {A : List Row} (hA : ∀ r ∈ A, r.length = n) (f : Row → Int) (f0 : f (List.replicate n 0) = 0) (fl : ∀ a b x y, x.length = n → y.length = n → f (lcR a b x y) = a * f x - b * f y) (fs : ∀ c x, x.length = n → f (x.map (c * ·)) = c * f x) (h : ∀ r ∈ A, f r = 0) {v : Row} (hv : Sp n A v) : f v = 0 := by
  induction hv with
  | zero => exact f0
  | mem hr => exact h _ hr
  | comb a b h1 h2 e1 e2 =>
    rw [fl a b _ _ (h1.len hA) (h2.len hA), e1, e2]
    simp
  | div c hc h1 e =>
    have hl := h1.len hA
    rw [List.length_map] at hl
    rw [fs c _ hl] at e
    rcases Int.mul_eq_zero.mp e with e | e
    · exact absurd e hc
    · exact e
theorem lead_nz : ∀ {r : Row}, leadR r < r.length → at0 r (leadR r) ≠ 0
  | [], h => absurd h (by simp [leadR])
  | c :: r, h => by
    rw [leadR] at h ⊢
    by_cases hc : c = 0
    · rw [if_pos hc] at h ⊢
      rw [at0_cons]
      rw [List.length_cons] at h
      exact lead_nz (by omega)
    · rw [if_neg hc]
      exact hc
theorem lead_low : ∀ {r : Row} {k : Nat}, k < leadR r → at0 r k = 0
  | [], k, h => absurd h (by simp [leadR])
  | c :: r, k, h => by
    rw [leadR] at h
    by_cases hc : c = 0
    · rw [if_pos hc] at h
      cases k with
      | zero => exact hc
      | succ k =>
        rw [at0_cons]
        exact lead_low (by omega)
    · rw [if_neg hc] at h
      exact absurd h (by omega)
theorem lead_of_low {n : Nat} {r : Row} (hl : r.length = n) {k : Nat} (hk : k < n) (h1 : at0 r k ≠ 0) (h2 : ∀ j < k, at0 r j = 0) : leadR r = k := by
  rcases Nat.lt_trichotomy (leadR r) k with h | h | h
  · exact absurd (h2 _ h) (lead_nz (by omega))
  · exact h
  · exact absurd (lead_low h) h1
structure Red (n : Nat) (R : List Row) : Prop where
  len : ∀ r ∈ R, r.length = n
  lt : ∀ r ∈ R, leadR r < n
  inc : R.Pairwise fun x y => leadR x < leadR y
  off : ∀ x ∈ R, ∀ y ∈ R, leadR x ≠ leadR y → at0 x (leadR y) = 0
def av (r : Row) : Int := at0 r (leadR r)
def prodA : List Row → Int
  | [] => 1
  | r :: R => av r * prodA R
def sumA (g : Row → Int) : List Row → Int
  | [] => 0
  | r :: R => g r + sumA g R
theorem prodA_dvd : ∀ {R : List Row} {r : Row}, r ∈ R → av r ∣ prodA R
  | _ :: R, r, h => by
    rcases List.mem_cons.mp h with rfl | h
    · exact Int.dvd_mul_right _ _
    · exact Int.dvd_trans (prodA_dvd h) (Int.dvd_mul_left _ _)
theorem prodA_ne : ∀ {R : List Row}, (∀ r ∈ R, av r ≠ 0) → prodA R ≠ 0
  | [], _ => by decide
  | r :: R, h => Int.mul_ne_zero (h r List.mem_cons_self) (prodA_ne fun x hx => h x (List.mem_cons_of_mem _ hx))
theorem sumA_zero (g : Row → Int) : ∀ {R : List Row}, (∀ r ∈ R, g r = 0) → sumA g R = 0
  | [], _ => rfl
  | r :: R, h => by
    rw [sumA, h r List.mem_cons_self, sumA_zero g fun x hx => h x (List.mem_cons_of_mem _ hx)]
    rfl
theorem sumA_one (g : Row → Int) (s : Row) : ∀ {R : List Row}, R.Pairwise (fun x y => leadR x < leadR y) → s ∈ R → (∀ r ∈ R, leadR r ≠ leadR s → g r = 0) → sumA g R = g s
  | r :: R, hp, hs, h => by
    obtain ⟨p1, p2⟩ := List.pairwise_cons.mp hp
    rw [sumA]
    rcases List.mem_cons.mp hs with rfl | hs
    · rw [sumA_zero g fun x hx => h x (List.mem_cons_of_mem _ hx) (Nat.ne_of_gt (p1 x hx))]
      exact Int.add_zero _
    · rw [h r List.mem_cons_self (Nat.ne_of_lt (p1 s hs)), sumA_one g s p2 hs fun x hx => h x (List.mem_cons_of_mem _ hx)]
      exact Int.zero_add _
theorem sumA_lin (g1 g2 g3 : Row → Int) (a b : Int) : ∀ (R : List Row), (∀ r ∈ R, g3 r = a * g1 r - b * g2 r) → sumA g3 R = a * sumA g1 R - b * sumA g2 R
  | [], _ => by simp [sumA]
  | r :: R, h => by
    rw [sumA, sumA, sumA, h r List.mem_cons_self, sumA_lin g1 g2 g3 a b R fun x hx => h x (List.mem_cons_of_mem _ hx), Int.mul_add, Int.mul_add]
    omega
theorem sumA_scale (g1 g2 : Row → Int) (c : Int) : ∀ (R : List Row), (∀ r ∈ R, g2 r = c * g1 r) → sumA g2 R = c * sumA g1 R
  | [], _ => by simp [sumA]
  | r :: R, h => by
    rw [sumA, sumA, h r List.mem_cons_self, sumA_scale g1 g2 c R fun x hx => h x (List.mem_cons_of_mem _ hx), Int.mul_add]
/-- v, times the product of the leads' items, from its items at the leads -/
theorem Red.coords {n : Nat} {R : List Row} (h : Red n R) {v : Row} (hv : Sp n R v) (k : Nat) : prodA R * at0 v k = sumA (fun r => at0 v (leadR r) * (prodA R / av r * at0 r k)) R := by
  have key := hv.lin h.len (fun v => prodA R * at0 v k - sumA (fun r => at0 v (leadR r) * (prodA R / av r * at0 r k)) R) ?_ ?_ ?_ ?_
  · have key : prodA R * at0 v k - sumA (fun r => at0 v (leadR r) * (prodA R / av r * at0 r k)) R = 0 := key
    omega
  · show prodA R * at0 (List.replicate n 0) k - sumA (fun r => at0 (List.replicate n 0) (leadR r) * (prodA R / av r * at0 r k)) R = 0
    rw [at0_zero, sumA_zero _ fun r _ => by rw [at0_zero, Int.zero_mul]]
    simp
  · intro a b x y hx hy
    show prodA R * at0 (lcR a b x y) k - sumA (fun r => at0 (lcR a b x y) (leadR r) * (prodA R / av r * at0 r k)) R = _
    rw [at0_lcR hx hy, sumA_lin (fun r => at0 x (leadR r) * (prodA R / av r * at0 r k)) (fun r => at0 y (leadR r) * (prodA R / av r * at0 r k)) _ a b R fun r _ => by rw [at0_lcR hx hy, Int.sub_mul, Int.mul_assoc, Int.mul_assoc]]
    rw [Int.mul_sub, Int.mul_sub, Int.mul_sub, Int.mul_left_comm, Int.mul_left_comm (prodA R) b]
    omega
  · intro c x hx
    show prodA R * at0 (x.map (c * ·)) k - sumA (fun r => at0 (x.map (c * ·)) (leadR r) * (prodA R / av r * at0 r k)) R = _
    rw [at0_scale, sumA_scale (fun r => at0 x (leadR r) * (prodA R / av r * at0 r k)) _ c R fun r _ => by rw [at0_scale, Int.mul_assoc], Int.mul_sub, Int.mul_left_comm]
  · intro s hs
    show prodA R * at0 s k - sumA (fun r => at0 s (leadR r) * (prodA R / av r * at0 r k)) R = 0
    rw [sumA_one (fun r => at0 s (leadR r) * (prodA R / av r * at0 r k)) s h.inc hs fun r hr hne => by rw [h.off s hs r hr (Ne.symm hne), Int.zero_mul]]
    have : av s * (prodA R / av s) = prodA R := Int.mul_ediv_cancel' (prodA_dvd hs)
    show prodA R * at0 s k - av s * (prodA R / av s * at0 s k) = 0
    rw [← Int.mul_assoc, this]
    omega
theorem Red.zero {n : Nat} {R : List Row} (h : Red n R) {v : Row} (hv : Sp n R v) (h0 : ∀ r ∈ R, at0 v (leadR r) = 0) : v = List.replicate n 0 := by
  refine row_ext (hv.len h.len) List.length_replicate fun k _ => ?_
  have e := h.coords hv k
  rw [sumA_zero _ fun r hr => by rw [h0 r hr, Int.zero_mul]] at e
  rw [at0_zero]
  rcases Int.mul_eq_zero.mp e with e | e
  · exact absurd e (prodA_ne fun r hr => lead_nz (by rw [h.len r hr]; exact h.lt r hr))
  · exact e
theorem Red.lead_in {n : Nat} {R : List Row} (h : Red n R) {v : Row} (hv : Sp n R v) (hl : leadR v < n) : ∃ r ∈ R, leadR r = leadR v := by
  refine Classical.byContradiction fun hno => ?_
  have hno : ∀ r ∈ R, leadR r ≠ leadR v := fun r hr e => hno ⟨r, hr, e⟩
  have e := h.coords hv (leadR v)
  rw [sumA_zero _ fun r hr => by
    rcases Nat.lt_or_gt_of_ne (hno r hr) with q | q
    · rw [lead_low q, Int.zero_mul]
    · rw [lead_low q, Int.mul_zero, Int.mul_zero]] at e
  rcases Int.mul_eq_zero.mp e with e | e
  · exact prodA_ne (fun r hr => lead_nz (by rw [h.len r hr]; exact h.lt r hr)) e
  · exact lead_nz (by rw [hv.len h.len]; exact hl) e
theorem sub_sorted : ∀ {l1 l2 : List Nat}, l1.Pairwise (· < ·) → l2.Pairwise (· < ·) → (∀ x ∈ l1, x ∈ l2) → l1.Sublist l2
  | [], _, _, _, _ => List.nil_sublist _
  | x :: l1, [], _, _, h => absurd (h x List.mem_cons_self) (by simp)
  | x :: l1, y :: l2, h1, h2, h => by
    obtain ⟨a1, a2⟩ := List.pairwise_cons.mp h1
    obtain ⟨b1, b2⟩ := List.pairwise_cons.mp h2
    by_cases e : x = y
    · subst e
      refine (sub_sorted a2 b2 fun z hz => ?_).cons_cons x
      rcases List.mem_cons.mp (h z (List.mem_cons_of_mem _ hz)) with rfl | q
      · exact absurd (a1 z hz) (Nat.lt_irrefl _)
      · exact q
    · refine (sub_sorted h1 b2 fun z hz => ?_).cons y
      have hx : x ∈ l2 := by
        rcases List.mem_cons.mp (h x List.mem_cons_self) with q | q
        · exact absurd q e
        · exact q
      rcases List.mem_cons.mp (h z hz) with rfl | q
      · have := b1 x hx
        rcases List.mem_cons.mp hz with rfl | hz
        · exact absurd rfl e
        · have := a1 z hz
          omega
      · exact q
theorem Red.leads {n : Nat} {R : List Row} (h : Red n R) : (R.map leadR).Pairwise (· < ·) := List.pairwise_map.mpr h.inc
theorem Red.sub {n : Nat} {A B : List Row} (hA : Red n A) (hB : Red n B) (h : ∀ r ∈ A, Sp n B r) : (A.map leadR).Sublist (B.map leadR) :=
  sub_sorted hA.leads hB.leads fun k hk => by
    obtain ⟨r, hr, rfl⟩ := List.mem_map.mp hk
    obtain ⟨s, hs, e⟩ := hB.lead_in (h r hr) (hA.lt r hr)
    exact List.mem_map.mpr ⟨s, hs, e⟩
/-- a span within another of the same rank is all of it -/
theorem Red.full {n : Nat} {A B : List Row} (hA : Red n A) (hB : Red n B) (h : ∀ r ∈ A, Sp n B r) (hl : A.length = B.length) : A.map leadR = B.map leadR :=
  (hA.sub hB h).eq_of_length (by rw [List.length_map, List.length_map]; exact hl)
theorem gF_scale (c : Int) : ∀ (r : Row) (g : Nat), (r.map (c * ·)).foldl gF (c.natAbs * g) = c.natAbs * r.foldl gF g
  | [], g => rfl
  | x :: r, g => by
    rw [List.map_cons, List.foldl_cons, List.foldl_cons, ← gF_scale c r (gF g x)]
    congr 1
    show Nat.gcd ((c.natAbs * g : Nat) : Int).natAbs (c * x).natAbs = c.natAbs * Nat.gcd (g : Int).natAbs x.natAbs
    rw [Int.natAbs_mul, Int.natAbs_natCast, Int.natAbs_natCast, Nat.gcd_mul_left]
theorem gcdR_scale (c : Int) (r : Row) : gcdR (r.map (c * ·)) = c.natAbs * gcdR r := by
  have := gF_scale c r 0
  rw [Nat.mul_zero] at this
  exact this
theorem fstNZ_lead : ∀ r : Row, leadR r < r.length → fstNZ r = at0 r (leadR r)
  | [], h => absurd h (by simp [leadR])
  | c :: r, h => by
    rw [leadR] at h ⊢
    unfold fstNZ
    by_cases hc : c = 0
    · rw [if_pos hc] at h ⊢
      rw [at0_cons, List.filter_cons_of_neg (by unfold nz; simp [hc])]
      rw [List.length_cons] at h
      exact fstNZ_lead r (by omega)
    · rw [if_neg hc, List.filter_cons_of_pos (by unfold nz; simp [hc])]
      rfl
/-- a slim row that is not 0: its numbers have no common divisor, the first is positive -/
theorem slim_norm {r : Row} (h : slimR r = r) (hl : leadR r < r.length) : gcdR r = 1 ∧ 0 < at0 r (leadR r) := by
  have h0 : gcdR r ≠ 0 := fun e => lead_nz hl (by
    have := gcdR_zero.mp e
    unfold at0
    rw [List.getD_eq_getElem?_getD, List.getElem?_eq_getElem hl]
    exact this _ (List.getElem_mem hl))
  unfold slimR at h
  rw [if_neg h0] at h
  have hnz := lead_nz hl
  have e : (at0 r (leadR r)).fdiv (sgnG r) = at0 r (leadR r) := by
    have q : at0 (r.map fun c => c.fdiv (sgnG r)) (leadR r) = at0 r (leadR r) := by rw [h]
    have q2 : at0 (r.map fun c => c.fdiv (sgnG r)) (leadR r) = (at0 r (leadR r)).fdiv (sgnG r) := by
      unfold at0
      rw [List.getD_eq_getElem?_getD, List.getD_eq_getElem?_getD, List.getElem?_map, List.getElem?_eq_getElem hl]
      rfl
    rw [← q2, q]
  have hm : at0 r (leadR r) ∈ r := by
    unfold at0
    rw [List.getD_eq_getElem?_getD, List.getElem?_eq_getElem hl]
    exact List.getElem_mem hl
  obtain ⟨m, hm2⟩ := sgnG_dvd r _ hm
  have hs0 : sgnG r ≠ 0 := by unfold sgnG; split <;> omega
  rw [hm2, Int.mul_fdiv_cancel_left _ hs0] at e
  have hmn : m ≠ 0 := fun z => hnz (by rw [hm2, z, Int.mul_zero])
  have h1 : sgnG r = 1 := by
    have : (sgnG r - 1) * m = 0 := by rw [Int.sub_mul, ← e]; omega
    rcases Int.mul_eq_zero.mp this with z | z
    · omega
    · exact absurd z hmn
  have hf := fstNZ_lead r hl
  unfold sgnG at h1
  split at h1
  · omega
  · rename_i hn
    rw [hf] at hn
    exact ⟨by omega, by omega⟩
theorem Red.row_eq {n : Nat} {A B : List Row} (hA : Red n A) (hB : Red n B) (sA : ∀ r ∈ A, slimR r = r) (sB : ∀ r ∈ B, slimR r = r) (h : ∀ r ∈ A, Sp n B r) (hl : A.map leadR = B.map leadR) {r s : Row} (hr : r ∈ A) (hs : s ∈ B) (e : leadR r = leadR s) : r = s := by
  have lr := hA.len r hr
  have ls := hB.len s hs
  have hd : Sp n B (lcR (at0 s (leadR s)) (at0 r (leadR s)) r s) := .comb _ _ (h r hr) (.mem hs)
  have h0 := hB.zero hd fun t ht => by
    rw [at0_lcR lr ls]
    by_cases q : leadR t = leadR s
    · rw [q, Int.mul_comm]
      omega
    · rw [hB.off s hs t ht (Ne.symm q)]
      obtain ⟨t', ht', e'⟩ : ∃ t' ∈ A, leadR t' = leadR t := by
        have : leadR t ∈ A.map leadR := by rw [hl]; exact List.mem_map.mpr ⟨t, ht, rfl⟩
        exact List.mem_map.mp this
      rw [← e', hA.off r hr t' ht' (by rw [e', e]; exact Ne.symm q)]
      simp
  have hj : ∀ j, at0 s (leadR s) * at0 r j = at0 r (leadR s) * at0 s j := fun j => by
    have := congrArg (fun x => at0 x j) h0
    have this : at0 (lcR (at0 s (leadR s)) (at0 r (leadR s)) r s) j = at0 (List.replicate n 0) j := this
    rw [at0_lcR lr ls, at0_zero] at this
    omega
  have hm : r.map (at0 s (leadR s) * ·) = s.map (at0 r (leadR s) * ·) := row_ext (n := n) (by rw [List.length_map]; exact lr) (by rw [List.length_map]; exact ls) fun k _ => by
    rw [at0_scale, at0_scale]
    exact hj k
  obtain ⟨g1, p1⟩ := slim_norm (sA r hr) (by rw [lr]; exact hA.lt r hr)
  obtain ⟨g2, p2⟩ := slim_norm (sB s hs) (by rw [ls]; exact hB.lt s hs)
  rw [e] at p1
  have hg := congrArg gcdR hm
  rw [gcdR_scale, gcdR_scale, g1, g2] at hg
  have ha : at0 s (leadR s) = at0 r (leadR s) := by omega
  refine row_ext lr ls fun k _ => ?_
  have := hj k
  rw [ha] at this
  exact Int.eq_of_mul_eq_mul_left (by omega) this
theorem Red.uniq {n : Nat} {A B : List Row} (hA : Red n A) (hB : Red n B) (sA : ∀ r ∈ A, slimR r = r) (sB : ∀ r ∈ B, slimR r = r) (h : ∀ r ∈ A, Sp n B r) (hl : A.length = B.length) : A = B := by
  have hm := hA.full hB h hl
  refine List.ext_getElem hl fun i h1 h2 => ?_
  refine hA.row_eq hB sA sB h hm (List.getElem_mem h1) (List.getElem_mem h2) ?_
  have : (A.map leadR)[i]'(by rw [List.length_map]; exact h1) = (B.map leadR)[i]'(by rw [List.length_map]; exact h2) := by
    simp only [hm]
  rw [List.getElem_map, List.getElem_map] at this
  exact this
theorem lcR_zero_r {n : Nat} {x : Row} (hx : x.length = n) (a b : Int) : lcR a b x (List.replicate n 0) = x.map (a * ·) :=
  row_ext (n := n) (lcR_len hx List.length_replicate) (by rw [List.length_map]; exact hx) fun k _ => by
    rw [at0_lcR hx List.length_replicate, at0_zero, at0_scale]
    omega
theorem Sp.scale {n : Nat} {A : List Row} (hA : ∀ r ∈ A, r.length = n) (c : Int) {x : Row} (h : Sp n A x) : Sp n A (x.map (c * ·)) := by
  have := Sp.comb c 0 h (.zero (n := n) (A := A))
  rw [lcR_zero_r (h.len hA)] at this
  exact this
theorem slim_scale (r : Row) : ∃ c : Int, c ≠ 0 ∧ (slimR r).map (c * ·) = r := by
  unfold slimR
  by_cases h0 : gcdR r = 0
  · rw [if_pos h0]
    exact ⟨1, by decide, by simp⟩
  · rw [if_neg h0]
    refine ⟨sgnG r, by unfold sgnG; split <;> omega, ?_⟩
    rw [List.map_map]
    refine (List.map_congr_left fun c hc => ?_).trans (List.map_id r)
    show sgnG r * c.fdiv (sgnG r) = c
    obtain ⟨m, hm⟩ := sgnG_dvd r c hc
    have hs0 : sgnG r ≠ 0 := by unfold sgnG; split <;> omega
    rw [hm, Int.mul_fdiv_cancel_left _ hs0]
theorem Sp.slim {n : Nat} {A : List Row} {x : Row} (h : Sp n A x) : Sp n A (slimR x) := by
  obtain ⟨c, hc, e⟩ := slim_scale x
  exact .div c hc (by rw [e]; exact h)
theorem Sp.unslim {n : Nat} {A : List Row} (hA : ∀ r ∈ A, r.length = n) {x : Row} (h : Sp n A (slimR x)) : Sp n A x := by
  obtain ⟨c, hc, e⟩ := slim_scale x
  have := h.scale hA c
  rw [e] at this
  exact this
theorem Sp.lclear {n : Nat} {A : List Row} (k : Nat) {x l : Row} (hx : Sp n A x) (hl : Sp n A l) : Sp n A (lclear n l k x) := (Sp.comb _ _ hx hl).slim
/-- back from what was cleared -/
theorem Sp.unclear {n : Nat} {A : List Row} (hA : ∀ r ∈ A, r.length = n) (k : Nat) {x l : Row} (hx : x.length = n) (hk : at0 l k ≠ 0) (h : Sp n A (SP.lclear n l k x)) (hl : Sp n A l) : Sp n A x := by
  have h1 : Sp n A (lcR (at0 l k) (at0 x k) x l) := Sp.unslim hA h
  have ll := hl.len hA
  have h2 := Sp.comb 1 (-(at0 x k)) h1 hl
  have e : lcR 1 (-(at0 x k)) (lcR (at0 l k) (at0 x k) x l) l = x.map (at0 l k * ·) :=
    row_ext (n := n) (lcR_len (lcR_len hx ll) ll) (by rw [List.length_map]; exact hx) fun j _ => by
      rw [at0_lcR (lcR_len hx ll) ll, at0_lcR hx ll, at0_scale]
      rw [Int.neg_mul]
      omega
  rw [e] at h2
  exact .div _ hk h2
theorem lead_scale {c : Int} (hc : c ≠ 0) : ∀ r : Row, leadR (r.map (c * ·)) = leadR r
  | [] => rfl
  | x :: r => by
    rw [List.map_cons, leadR, leadR, lead_scale hc r]
    by_cases h : x = 0
    · rw [if_pos h, if_pos (by rw [h, Int.mul_zero])]
    · rw [if_neg h, if_neg (Int.mul_ne_zero hc h)]
theorem lead_slim (r : Row) : leadR (slimR r) = leadR r := by
  obtain ⟨c, hc, e⟩ := slim_scale r
  have := lead_scale hc (slimR r)
  rw [e] at this
  exact this.symm
theorem lead_zero : ∀ {r : Row}, (∀ c ∈ r, c = 0) → leadR r = r.length
  | [], _ => rfl
  | c :: r, h => by
    rw [leadR, if_pos (h c List.mem_cons_self), lead_zero fun x hx => h x (List.mem_cons_of_mem _ hx), List.length_cons]
theorem slim_idem (r : Row) : slimR (slimR r) = slimR r := by
  by_cases h0 : gcdR r = 0
  · have : slimR r = r := by unfold slimR; rw [if_pos h0]
    rw [this, this]
  · obtain ⟨c, rest, e1, hc, hm⟩ := nz_row h0
    have hl : leadR r < r.length := Classical.byContradiction fun hn => h0 (gcdR_zero.mpr fun x hx => by
      obtain ⟨k, hk, rfl⟩ := List.getElem_of_mem hx
      have := lead_low (r := r) (k := k) (by omega)
      unfold at0 at this
      rw [List.getD_eq_getElem?_getD, List.getElem?_eq_getElem hk] at this
      exact this)
    have hs : slimR r = r.map fun c => c.fdiv (sgnG r) := by unfold slimR; rw [if_neg h0]
    have hs0 : sgnG r ≠ 0 := by unfold sgnG; split <;> omega
    have he : (slimR r).map (sgnG r * ·) = r := by
      rw [hs, List.map_map]
      refine (List.map_congr_left fun c hc => ?_).trans (List.map_id r)
      show sgnG r * c.fdiv (sgnG r) = c
      obtain ⟨m, hm⟩ := sgnG_dvd r c hc
      rw [hm, Int.mul_fdiv_cancel_left _ hs0]
    have hg : gcdR (slimR r) = 1 := by
      have := gcdR_scale (sgnG r) (slimR r)
      rw [he] at this
      have h2 : (sgnG r).natAbs = gcdR r := by unfold sgnG; split <;> omega
      rw [h2] at this
      have h3 : gcdR r * gcdR (slimR r) = gcdR r * 1 := by omega
      exact Nat.eq_of_mul_eq_mul_left (by omega) h3
    have hls : leadR (slimR r) < (slimR r).length := by rw [lead_slim, slim_len]; exact hl
    have hf1 := fstNZ_lead r hl
    have hf2 := fstNZ_lead (slimR r) hls
    rw [lead_slim] at hf2
    have hat : at0 r (leadR r) = sgnG r * at0 (slimR r) (leadR r) := by
      have := at0_scale (sgnG r) (slimR r) (leadR r)
      rw [he] at this
      exact this
    have hpos : 0 < fstNZ (slimR r) := by
      rw [hf2]
      have hne : at0 (slimR r) (leadR r) ≠ 0 := fun z => lead_nz hl (by rw [hat, z, Int.mul_zero])
      rcases Int.lt_trichotomy (at0 (slimR r) (leadR r)) 0 with q | q | q
      · exfalso
        by_cases hn : fstNZ r < 0
        · have h1 : sgnG r < 0 := by unfold sgnG; rw [if_pos hn]; omega
          have h2 := Int.mul_pos_of_neg_of_neg h1 q
          rw [← hat, ← hf1] at h2
          omega
        · have h1 : 0 < sgnG r := by unfold sgnG; rw [if_neg hn]; omega
          have h2 := Int.mul_neg_of_pos_of_neg h1 q
          rw [← hat, ← hf1] at h2
          omega
      · exact absurd q hne
      · exact q
    have h1 : sgnG (slimR r) = 1 := by
      unfold sgnG
      rw [if_neg (by omega), hg]
      rfl
    have gen : ∀ x : Row, gcdR x ≠ 0 → slimR x = x.map fun c => c.fdiv (sgnG x) := fun x hx => by unfold slimR; rw [if_neg hx]
    rw [gen (slimR r) (by rw [hg]; decide), h1]
    refine (List.map_congr_left fun c _ => ?_).trans (List.map_id _)
    show c.fdiv 1 = c
    exact Int.fdiv_one c
end SP

/-! SP: the least rows of a span, however they are come by. -/
namespace SP
open PySem PySem.Spec PyProof.Rows L2 MM
/-- x' is x made 0 at k by r -/
structure Clr (n : Nat) (r : Row) (k : Nat) (x x' : Row) : Prop where
  len : x'.length = n
  zk : at0 x' k = 0
  pat : ∀ j, at0 r j = 0 → (at0 x' j = 0 ↔ at0 x j = 0)
  to : Sp n [x, r] x'
  fro : Sp n [x', r] x
theorem at0_slim0 (x : Row) (j : Nat) : at0 (slimR x) j = 0 ↔ at0 x j = 0 := by
  obtain ⟨c, hc, e⟩ := slim_scale x
  have := at0_scale c (slimR x) j
  rw [e] at this
  rw [this]
  constructor
  · intro h; rw [h, Int.mul_zero]
  · intro h
    rcases Int.mul_eq_zero.mp h with h | h
    · exact absurd h hc
    · exact h
theorem clr_lclear {n : Nat} {r x : Row} {k : Nat} (hx : x.length = n) (hr : r.length = n) (hk : at0 r k ≠ 0) : Clr n r k x (lclear n r k x) where
  len := lclear_len k hx hr
  zk := by
    unfold lclear
    rw [at0_slim0, at0_lcR hx hr]
    rw [Int.mul_comm]
    omega
  pat := fun j hj => by
    unfold lclear
    rw [at0_slim0, at0_lcR hx hr, hj, Int.mul_zero, Int.sub_zero]
    constructor
    · intro h
      rcases Int.mul_eq_zero.mp h with h | h
      · exact absurd h hk
      · exact h
    · intro h; rw [h, Int.mul_zero]
  to := Sp.lclear k (.mem List.mem_cons_self) (.mem (List.mem_cons_of_mem _ List.mem_cons_self))
  fro := Sp.unclear (fun y hy => by
    rcases List.mem_cons.mp hy with rfl | hy
    · exact lclear_len k hx hr
    · rw [List.mem_singleton.mp hy]; exact hr) k hx hk (.mem List.mem_cons_self) (.mem (List.mem_cons_of_mem _ List.mem_cons_self))
theorem clr_clear {n : Nat} {r x : Row} {k : Nat} (hx : x.length = n) (hr : r.length = n) (hk : at0 r k ≠ 0) : Clr n r k x (clearR x r k) := by
  unfold clearR
  by_cases h0 : at0 x k = 0
  · rw [if_pos h0]
    exact ⟨hx, h0, fun j _ => Iff.rfl, .mem List.mem_cons_self, .mem List.mem_cons_self⟩
  · rw [if_neg h0]
    exact clr_lclear hx hr hk
/-- as far as column k -/
structure Inv (n k : Nat) (L : List Row) (s : List Row × List Row) : Prop where
  len : ∀ r ∈ s.1, r.length = n
  low : ∀ r ∈ s.1, ∀ j < k, at0 r j = 0
  red : Red n s.2
  lt : ∀ r ∈ s.2, leadR r < k
  span : ∀ v, Sp n (s.1 ++ s.2) v ↔ Sp n L v
theorem Inv.next {n k : Nat} {L : List Row} {s : List Row × List Row} (h : Inv n k L s) (h0 : ∀ r ∈ s.1, at0 r k = 0) : Inv n (k + 1) L s where
  len := h.len
  low := fun r hr j hj => by
    rcases Nat.lt_or_ge j k with q | q
    · exact h.low r hr j q
    · rw [show j = k by omega]; exact h0 r hr
  red := h.red
  lt := fun r hr => Nat.lt_succ_of_lt (h.lt r hr)
  span := h.span
theorem lead_pat {n : Nat} {x y : Row} (hx : x.length = n) (hy : y.length = n) {m : Nat} (hm : leadR x < m) (hmn : m ≤ n) (h : ∀ j < m, at0 y j = 0 ↔ at0 x j = 0) : leadR y = leadR x := by
  refine lead_of_low hy (by omega) ?_ fun j hj => ?_
  · intro q
    exact lead_nz (by omega) ((h _ hm).mp q)
  · exact (h j (by omega)).mpr (lead_low hj)
theorem Inv.step {n k : Nat} {L left found left' : List Row} {r r' : Row} {c : Row → Row} (h : Inv n k L (left, found)) (hk : k < n) (hr : r ∈ left) (hrk : at0 r k ≠ 0) (hr' : r'.length = n) (hp : ∀ j, at0 r' j = 0 ↔ at0 r j = 0) (hs : Sp n [r] r') (hs' : Sp n [r'] r)
    (h1 : ∀ x' ∈ left', ∃ x ∈ left, Clr n r k x x') (h2 : ∀ x ∈ left, Sp n (r :: left') x) (hc : ∀ x ∈ found, Clr n r k x (c x)) : Inv n (k + 1) L (left', found.map c ++ [r']) := by
  have hrl := h.len r hr
  have lr : ∀ j < k, at0 r j = 0 := h.low r hr
  have ld : leadR r = k := lead_of_low hrl hk hrk lr
  have ld' : leadR r' = k := lead_of_low hr' hk (fun q => hrk ((hp k).mp q)) fun j hj => (hp j).mpr (lr j hj)
  have lc : ∀ x ∈ found, leadR (c x) = leadR x := fun x hx => lead_pat (h.red.len x hx) (hc x hx).len (h.lt x hx) (Nat.le_of_lt hk) fun j hj => (hc x hx).pat j (lr j hj)
  have spl : ∀ y ∈ left' ++ (found.map c ++ [r']), y.length = n := fun y hy => by
    rcases List.mem_append.mp hy with hy | hy
    · obtain ⟨x, _, q⟩ := h1 y hy; exact q.len
    · rcases List.mem_append.mp hy with hy | hy
      · obtain ⟨x, hx, rfl⟩ := List.mem_map.mp hy; exact (hc x hx).len
      · rw [List.mem_singleton.mp hy]; exact hr'
  have mr' : Sp n (left' ++ (found.map c ++ [r'])) r := hs'.trans fun y hy => by
    rw [List.mem_singleton.mp hy]
    exact .mem (List.mem_append.mpr (.inr (List.mem_append.mpr (.inr List.mem_cons_self))))
  have mr : Sp n (left ++ found) r' := hs.trans fun y hy => by
    rw [List.mem_singleton.mp hy]
    exact .mem (List.mem_append.mpr (.inl hr))
  refine ⟨fun y hy => ?_, fun y hy j hj => ?_, ⟨fun y hy => ?_, fun y hy => ?_, ?_, fun x hx y hy hne => ?_⟩, fun y hy => ?_, fun v => ?_⟩
  · obtain ⟨x, _, q⟩ := h1 y hy; exact q.len
  · obtain ⟨x, hx, q⟩ := h1 y hy
    rcases Nat.lt_or_ge j k with z | z
    · exact (q.pat j (lr j z)).mpr (h.low x hx j z)
    · rw [show j = k by omega]; exact q.zk
  · exact spl y (List.mem_append.mpr (.inr hy))
  · rcases List.mem_append.mp hy with hy | hy
    · obtain ⟨x, hx, rfl⟩ := List.mem_map.mp hy
      rw [lc x hx]
      exact h.red.lt x hx
    · rw [List.mem_singleton.mp hy, ld']; exact hk
  · refine List.pairwise_append.mpr ⟨?_, List.pairwise_singleton _ _, fun x hx y hy => ?_⟩
    · refine List.pairwise_map.mpr (h.red.inc.imp_of_mem fun hx hy q => ?_)
      rw [lc _ hx, lc _ hy]
      exact q
    · obtain ⟨z, hz, rfl⟩ := List.mem_map.mp hx
      rw [List.mem_singleton.mp hy, ld', lc z hz]
      exact h.lt z hz
  · rcases List.mem_append.mp hx with hx | hx
    · obtain ⟨z, hz, rfl⟩ := List.mem_map.mp hx
      rcases List.mem_append.mp hy with hy | hy
      · obtain ⟨w, hw, rfl⟩ := List.mem_map.mp hy
        rw [lc z hz, lc w hw] at hne
        rw [lc w hw]
        exact ((hc z hz).pat _ (lr _ (h.lt w hw))).mpr (h.red.off z hz w hw hne)
      · rw [List.mem_singleton.mp hy, ld']
        exact (hc z hz).zk
    · rw [List.mem_singleton.mp hx] at hne ⊢
      rcases List.mem_append.mp hy with hy | hy
      · obtain ⟨w, hw, rfl⟩ := List.mem_map.mp hy
        rw [lc w hw]
        exact (hp _).mpr (lr _ (h.lt w hw))
      · rw [List.mem_singleton.mp hy] at hne
        exact absurd rfl hne
  · rcases List.mem_append.mp hy with hy | hy
    · obtain ⟨x, hx, rfl⟩ := List.mem_map.mp hy
      rw [lc x hx]
      exact Nat.lt_succ_of_lt (h.lt x hx)
    · rw [List.mem_singleton.mp hy, ld']; exact Nat.lt_succ_self k
  · rw [← h.span v]
    constructor
    · intro hv
      refine hv.trans fun y hy => ?_
      rcases List.mem_append.mp hy with hy | hy
      · obtain ⟨x, hx, q⟩ := h1 y hy
        refine q.to.trans fun z hz => ?_
        rcases List.mem_cons.mp hz with rfl | hz
        · exact .mem (List.mem_append.mpr (.inl hx))
        · rw [List.mem_singleton.mp hz]; exact .mem (List.mem_append.mpr (.inl hr))
      · rcases List.mem_append.mp hy with hy | hy
        · obtain ⟨x, hx, rfl⟩ := List.mem_map.mp hy
          refine (hc x hx).to.trans fun z hz => ?_
          rcases List.mem_cons.mp hz with rfl | hz
          · exact .mem (List.mem_append.mpr (.inr hx))
          · rw [List.mem_singleton.mp hz]; exact .mem (List.mem_append.mpr (.inl hr))
        · rw [List.mem_singleton.mp hy]; exact mr
    · intro hv
      refine hv.trans fun y hy => ?_
      rcases List.mem_append.mp hy with hy | hy
      · refine (h2 y hy).trans fun z hz => ?_
        rcases List.mem_cons.mp hz with rfl | hz
        · exact mr'
        · exact .mem (List.mem_append.mpr (.inl hz))
      · refine (hc y hy).fro.trans fun z hz => ?_
        rcases List.mem_cons.mp hz with rfl | hz
        · exact .mem (List.mem_append.mpr (.inr (List.mem_append.mpr (.inl (List.mem_map.mpr ⟨y, hy, rfl⟩)))))
        · rw [List.mem_singleton.mp hz]; exact mr'
theorem zero_of_lead {n : Nat} {x : Row} (hx : x.length = n) (h : ¬ leadR x < n) : x = List.replicate n 0 :=
  row_ext hx List.length_replicate fun j hj => by rw [at0_zero]; exact lead_low (by omega)
theorem Inv.stepS {n k : Nat} {L : List Row} {s : List Row × List Row} (h : Inv n k L s) (hk : k < n) : Inv n (k + 1) L (stepS n s k) := by
  obtain ⟨left, found⟩ := s
  unfold SP.stepS
  cases e : pickK left k with
  | nil =>
    refine h.next fun r hr => ?_
    refine Classical.byContradiction fun hne => ?_
    obtain ⟨i, hi, rfl⟩ := List.getElem_of_mem hr
    have : ((left[i], i) : Row × Nat) ∈ pickK left k := List.mem_filter.mpr ⟨List.mem_zipIdx_iff_getElem?.mpr (List.getElem?_eq_getElem hi), by unfold nz; simp [hne]⟩
    rw [e] at this
    exact absurd this (by simp)
  | cons p rest =>
    obtain ⟨r, i⟩ := p
    obtain ⟨m1, m2⟩ := pick_mem (show (r, i) ∈ pickK left k by rw [e]; exact List.mem_cons_self)
    have hr : r ∈ left := List.mem_of_getElem? m1
    have hrl := h.len r hr
    have hi : i < left.length := (List.getElem?_eq_some_iff.mp m1).1
    have he : ∀ x ∈ left, x = r ∨ x ∈ left.eraseIdx i := fun x hx => by
      obtain ⟨j, hj, rfl⟩ := List.getElem_of_mem hx
      by_cases hji : j = i
      · left
        subst hji
        have := (List.getElem?_eq_some_iff.mp m1).2
        exact this
      · right
        exact List.mem_eraseIdx_iff_getElem.mpr ⟨j, hj, hji, rfl⟩
    refine Inv.step (r := r) (c := fun x => clearR x r k) h hk hr m2 hrl (fun j => Iff.rfl) (.mem List.mem_cons_self) (.mem List.mem_cons_self) (fun x' hx' => ?_) (fun x hx => ?_) fun x hx => clr_clear (h.red.len x hx) hrl m2
    · obtain ⟨hx', _⟩ := List.mem_filter.mp hx'
      obtain ⟨x, hx, rfl⟩ := List.mem_map.mp hx'
      have hx := List.mem_of_mem_eraseIdx hx
      exact ⟨x, hx, clr_clear (h.len x hx) hrl m2⟩
    · rcases he x hx with rfl | hx2
      · exact .mem List.mem_cons_self
      · have q := clr_clear (h.len x hx) hrl m2
        refine q.fro.trans fun z hz => ?_
        rcases List.mem_cons.mp hz with rfl | hz
        · by_cases hl : leadR (clearR x r k) < n
          · exact .mem (List.mem_cons_of_mem _ (List.mem_filter.mpr ⟨List.mem_map.mpr ⟨x, hx2, rfl⟩, decide_eq_true hl⟩))
          · rw [zero_of_lead q.len hl]; exact .zero
        · rw [List.mem_singleton.mp hz]; exact .mem List.mem_cons_self
theorem Inv.leastS {n k : Nat} {L : List Row} {s : List Row × List Row} (h : Inv n k L s) (hk : k < n) : Inv n (k + 1) L (leastS n s k) := by
  obtain ⟨left, found⟩ := s
  unfold SP.leastS
  cases e : left.filter fun x => nz (at0 x k) with
  | nil =>
    refine h.next fun r hr => ?_
    refine Classical.byContradiction fun hne => ?_
    have : r ∈ left.filter fun x => nz (at0 x k) := List.mem_filter.mpr ⟨hr, by unfold nz; simp [hne]⟩
    rw [e] at this
    exact absurd this (by simp)
  | cons r rest =>
    have hm : r ∈ left.filter fun x => nz (at0 x k) := by rw [e]; exact List.mem_cons_self
    obtain ⟨hr, m2⟩ := List.mem_filter.mp hm
    have m2 : at0 r k ≠ 0 := by unfold nz at m2; simpa using m2
    have hrl := h.len r hr
    refine Inv.step (r := r) (c := SP.lclear n r k) h hk hr m2 (by rw [slim_len]; exact hrl) (fun j => at0_slim0 r j) (Sp.slim (.mem List.mem_cons_self)) (Sp.unslim (fun y hy => by rw [List.mem_singleton.mp hy, slim_len]; exact hrl) (.mem List.mem_cons_self)) (fun x' hx' => ?_) (fun x hx => ?_) fun x hx => clr_lclear (h.red.len x hx) hrl m2
    · obtain ⟨x, hx, rfl⟩ := List.mem_map.mp hx'
      exact ⟨x, hx, clr_lclear (h.len x hx) hrl m2⟩
    · refine (clr_lclear (h.len x hx) hrl m2).fro.trans fun z hz => ?_
      rcases List.mem_cons.mp hz with rfl | hz
      · exact .mem (List.mem_cons_of_mem _ (List.mem_map.mpr ⟨x, hx, rfl⟩))
      · rw [List.mem_singleton.mp hz]; exact .mem List.mem_cons_self
theorem Inv.fold {n : Nat} {L : List Row} {f : List Row × List Row → Nat → List Row × List Row} (hf : ∀ k s, k < n → Inv n k L s → Inv n (k + 1) L (f s k)) : ∀ (m lo : Nat) (s : List Row × List Row), lo + m = n → Inv n lo L s → Inv n n L ((List.range' lo m).foldl f s)
  | 0, lo, s, e, h => by
    have : lo = n := by omega
    subst this
    exact h
  | m + 1, lo, s, e, h => by
    rw [List.range'_succ, List.foldl_cons]
    exact Inv.fold hf m (lo + 1) _ (by omega) (hf lo s (by omega) h)
/-- at the end nothing is left -/
theorem Inv.fin {n : Nat} {L : List Row} {s : List Row × List Row} (h : Inv n n L s) (v : Row) : Sp n s.2 v ↔ Sp n L v := by
  rw [← h.span v]
  constructor
  · exact Sp.mono fun r hr => List.mem_append.mpr (.inr hr)
  · intro hv
    refine hv.trans fun y hy => ?_
    rcases List.mem_append.mp hy with hy | hy
    · have : y = List.replicate n 0 := row_ext (h.len y hy) List.length_replicate fun j hj => by rw [at0_zero]; exact h.low y hy j hj
      rw [this]
      exact .zero
    · exact .mem hy
/-- the least rows of L's span -/
structure Lst (n : Nat) (L S : List Row) : Prop where
  red : Red n S
  slim : ∀ r ∈ S, slimR r = r
  span : ∀ v, Sp n S v ↔ Sp n L v
theorem red_nil {n : Nat} : Red n [] := ⟨fun _ h => absurd h (by simp), fun _ h => absurd h (by simp), List.Pairwise.nil, fun _ h => absurd h (by simp)⟩
theorem red_slim {n : Nat} {R : List Row} (h : Red n R) : Red n (R.map slimR) where
  len := fun y hy => by
    obtain ⟨x, hx, rfl⟩ := List.mem_map.mp hy
    rw [slim_len]; exact h.len x hx
  lt := fun y hy => by
    obtain ⟨x, hx, rfl⟩ := List.mem_map.mp hy
    rw [lead_slim]; exact h.lt x hx
  inc := List.pairwise_map.mpr (h.inc.imp fun q => by rw [lead_slim, lead_slim]; exact q)
  off := fun x hx y hy hne => by
    obtain ⟨x', hx', rfl⟩ := List.mem_map.mp hx
    obtain ⟨y', hy', rfl⟩ := List.mem_map.mp hy
    rw [lead_slim, lead_slim] at hne
    rw [lead_slim, at0_slim0]
    exact h.off x' hx' y' hy' hne
theorem span_slim {n : Nat} {R : List Row} (hl : ∀ r ∈ R, r.length = n) (v : Row) : Sp n (R.map slimR) v ↔ Sp n R v := by
  constructor
  · intro h
    refine h.trans fun y hy => ?_
    obtain ⟨x, hx, rfl⟩ := List.mem_map.mp hy
    exact Sp.slim (.mem hx)
  · intro h
    refine h.trans fun y hy => ?_
    exact Sp.unslim (fun z hz => by
      obtain ⟨x, hx, rfl⟩ := List.mem_map.mp hz
      rw [slim_len]; exact hl x hx) (.mem (List.mem_map.mpr ⟨y, hy, rfl⟩))
theorem space_lst {n : Nat} {L : List Row} (hl : ∀ r ∈ L, r.length = n) : Lst n L (spaceR L n) := by
  have h0 : Inv n 0 L (startS L n) := by
    refine ⟨fun r hr => ?_, fun r hr j hj => absurd hj (by omega), red_nil, fun r hr => absurd hr (by simp [startS]), fun v => ?_⟩
    · obtain ⟨x, hx, rfl⟩ := List.mem_map.mp hr
      rw [slim_len]; exact hl x (List.mem_filter.mp hx).1
    · show Sp n (((L.filter fun x => decide (leadR x < n)).map slimR) ++ []) v ↔ Sp n L v
      rw [List.append_nil, span_slim fun r hr => hl r (List.mem_filter.mp hr).1]
      constructor
      · exact Sp.mono fun r hr => (List.mem_filter.mp hr).1
      · intro h
        refine h.trans fun y hy => ?_
        by_cases q : leadR y < n
        · exact .mem (List.mem_filter.mpr ⟨hy, decide_eq_true q⟩)
        · rw [zero_of_lead (hl y hy) q]; exact .zero
  have h := Inv.fold (f := SP.stepS n) (fun k s hk h => h.stepS hk) n 0 (startS L n) (by omega) h0
  rw [← List.range_eq_range'] at h
  unfold spaceR
  refine ⟨red_slim h.red, fun r hr => ?_, fun v => ?_⟩
  · obtain ⟨x, hx, rfl⟩ := List.mem_map.mp hr
    exact slim_idem x
  · rw [span_slim h.red.len, h.fin]
theorem least_slim {n : Nat} : ∀ (ks : List Nat) (s : List Row × List Row), (∀ r ∈ s.2, slimR r = r) → ∀ r ∈ (ks.foldl (SP.leastS n) s).2, slimR r = r
  | [], s, h => h
  | k :: ks, s, h => by
    rw [List.foldl_cons]
    refine least_slim ks _ fun r hr => ?_
    unfold SP.leastS at hr
    split at hr
    · exact h r hr
    · rcases List.mem_append.mp hr with hr | hr
      · obtain ⟨x, hx, rfl⟩ := List.mem_map.mp hr
        exact slim_idem _
      · rw [List.mem_singleton.mp hr]; exact slim_idem _
theorem least_lst {n : Nat} {L : List Row} (hl : ∀ r ∈ L, r.length = n) : Lst n L (leastR L n) := by
  have h0 : Inv n 0 L (L, []) := ⟨hl, fun r hr j hj => absurd hj (by omega), red_nil, fun r hr => absurd hr (by simp), fun v => by
    show Sp n (L ++ []) v ↔ Sp n L v
    rw [List.append_nil]⟩
  have h := Inv.fold (f := SP.leastS n) (fun k s hk h => h.leastS hk) n 0 (L, []) (by omega) h0
  rw [← List.range_eq_range'] at h
  exact ⟨h.red, least_slim (List.range n) (L, []) fun r hr => absurd hr (by simp), h.fin⟩
theorem Lst.sub_len {n : Nat} {L L' S S' : List Row} (h : Lst n L S) (h' : Lst n L' S') (hs : ∀ v ∈ L, Sp n L' v) : S.length ≤ S'.length := by
  have := (h.red.sub h'.red fun r hr => (h'.span r).mpr (((h.span r).mp (.mem hr)).trans hs)).length_le
  rw [List.length_map, List.length_map] at this
  exact this
theorem Lst.eq {n : Nat} {L L' S S' : List Row} (h : Lst n L S) (h' : Lst n L' S') (hs : ∀ v ∈ L, Sp n L' v) (hs' : ∀ v ∈ L', Sp n L v) : S = S' :=
  h.red.uniq h'.red h.slim h'.slim (fun r hr => (h'.span r).mpr (((h.span r).mp (.mem hr)).trans hs)) (Nat.le_antisymm (h.sub_len h' hs) (h'.sub_len h hs'))
/-- a span in another, of the same size, is the other -/
theorem Lst.eq_of_len {n : Nat} {L L' S S' : List Row} (h : Lst n L S) (h' : Lst n L' S') (hs : ∀ v ∈ L, Sp n L' v) (hl : S.length = S'.length) : S = S' :=
  h.red.uniq h'.red h.slim h'.slim (fun r hr => (h'.span r).mpr (((h.span r).mp (.mem hr)).trans hs)) hl
theorem space_least {n : Nat} {L : List Row} (hl : ∀ r ∈ L, r.length = n) : spaceR L n = leastR L n := (space_lst hl).eq (least_lst hl) (fun v hv => .mem hv) fun v hv => .mem hv
theorem Lst.self {n : Nat} {S : List Row} (h : Red n S) (hs : ∀ r ∈ S, slimR r = r) : Lst n S S := ⟨h, hs, fun v => Iff.rfl⟩
theorem space_fix {n : Nat} {S : List Row} (hl : ∀ r ∈ S, r.length = n) : spaceR S n = S ↔ Red n S ∧ ∀ r ∈ S, slimR r = r := by
  constructor
  · intro e
    have := space_lst hl
    rw [e] at this
    exact ⟨this.red, this.slim⟩
  · intro ⟨h1, h2⟩
    exact (space_lst hl).eq (Lst.self h1 h2) (fun v hv => .mem hv) fun v hv => .mem hv
theorem Lst.fix {n : Nat} {L S : List Row} (h : Lst n L S) : spaceR S n = S := (space_fix h.red.len).mpr ⟨h.red, h.slim⟩
/-- within, by ranks -/
theorem rank_within {n : Nat} {L : List Row} {x : Row} (hl : ∀ r ∈ L, r.length = n) (hx : x.length = n) : (leastR (L ++ [x]) n).length = (leastR L n).length ↔ Sp n L x := by
  have h1 := least_lst hl
  have h2 : Lst n (L ++ [x]) (leastR (L ++ [x]) n) := least_lst fun r hr => by
    rcases List.mem_append.mp hr with hr | hr
    · exact hl r hr
    · rw [List.mem_singleton.mp hr]; exact hx
  constructor
  · intro e
    have e := h1.eq_of_len h2 (fun v hv => .mem (List.mem_append.mpr (.inl hv))) e.symm
    have : Sp n (leastR (L ++ [x]) n) x := (h2.span x).mpr (.mem (List.mem_append.mpr (.inr List.mem_cons_self)))
    rw [← e] at this
    exact (h1.span x).mp this
  · intro h
    rw [h2.eq h1 (fun v hv => ?_) fun v hv => .mem (List.mem_append.mpr (.inl hv))]
    rcases List.mem_append.mp hv with hv | hv
    · exact .mem hv
    · rw [List.mem_singleton.mp hv]; exact h
/-! ### what is left of a row -/
theorem rest_inv {n : Nat} : ∀ (S : List Row) (x : Row), (∀ r ∈ S, r.length = n ∧ leadR r < n) → S.Pairwise (fun a b => leadR a < leadR b ∧ at0 b (leadR a) = 0 ∧ at0 a (leadR b) = 0) → x.length = n →
    (restR x S).length = n ∧ (∀ r ∈ S, at0 (restR x S) (leadR r) = 0) ∧ Sp n (x :: S) (restR x S) ∧ Sp n (restR x S :: S) x ∧ ∀ j, (∀ r ∈ S, at0 r j = 0) → (at0 (restR x S) j = 0 ↔ at0 x j = 0)
  | [], x, _, _, hx => ⟨hx, fun r hr => absurd hr (by simp), .mem List.mem_cons_self, .mem List.mem_cons_self, fun j _ => Iff.rfl⟩
  | s :: S, x, hS, hp, hx => by
    obtain ⟨p1, p2⟩ := List.pairwise_cons.mp hp
    obtain ⟨s1, s2⟩ := hS s List.mem_cons_self
    have c := clr_clear (n := n) (r := s) (x := x) (k := leadR s) hx s1 (lead_nz (by omega))
    obtain ⟨i1, i2, i3, i4, i5⟩ := rest_inv S (clearR x s (leadR s)) (fun r hr => hS r (List.mem_cons_of_mem _ hr)) p2 c.len
    have e : restR x (s :: S) = restR (clearR x s (leadR s)) S := rfl
    rw [e]
    refine ⟨i1, fun r hr => ?_, ?_, ?_, fun j hj => ?_⟩
    · rcases List.mem_cons.mp hr with rfl | hr
      · refine (i5 (leadR r) fun t ht => (p1 t ht).2.1).mpr c.zk
      · exact i2 r hr
    · refine i3.trans fun z hz => ?_
      rcases List.mem_cons.mp hz with rfl | hz
      · refine c.to.trans fun w hw => ?_
        rcases List.mem_cons.mp hw with rfl | hw
        · exact .mem List.mem_cons_self
        · rw [List.mem_singleton.mp hw]; exact .mem (List.mem_cons_of_mem _ List.mem_cons_self)
      · exact .mem (List.mem_cons_of_mem _ (List.mem_cons_of_mem _ hz))
    · refine c.fro.trans fun z hz => ?_
      rcases List.mem_cons.mp hz with rfl | hz
      · refine i4.mono fun w hw => ?_
        rcases List.mem_cons.mp hw with rfl | hw
        · exact List.mem_cons_self
        · exact List.mem_cons_of_mem _ (List.mem_cons_of_mem _ hw)
      · rw [List.mem_singleton.mp hz]; exact .mem (List.mem_cons_of_mem _ List.mem_cons_self)
    · rw [i5 j fun r hr => hj r (List.mem_cons_of_mem _ hr)]
      exact c.pat j (hj s List.mem_cons_self)
theorem Red.pw {n : Nat} {S : List Row} (h : Red n S) : S.Pairwise (fun a b => leadR a < leadR b ∧ at0 b (leadR a) = 0 ∧ at0 a (leadR b) = 0) :=
  h.inc.imp_of_mem fun {a b} ha hb q => ⟨q, h.off b hb a ha (by omega), h.off a ha b hb (by omega)⟩
structure RestOk (n : Nat) (S : List Row) (x y : Row) : Prop where
  len : y.length = n
  off : ∀ r ∈ S, at0 y (leadR r) = 0
  to : Sp n (x :: S) y
  fro : Sp n (y :: S) x
theorem Red.rest {n : Nat} {S : List Row} (h : Red n S) {x : Row} (hx : x.length = n) : RestOk n S x (restR x S) := by
  obtain ⟨h1, h2, h3, h4, _⟩ := rest_inv S x (fun r hr => ⟨h.len r hr, h.lt r hr⟩) h.pw hx
  exact ⟨h1, h2, h3, h4⟩
theorem Red.rest_zero {n : Nat} {S : List Row} (h : Red n S) {x : Row} (hx : x.length = n) : restR x S = List.replicate n 0 ↔ Sp n S x := by
  have q := h.rest hx
  constructor
  · intro e
    have := q.fro
    rw [e] at this
    refine this.trans fun z hz => ?_
    rcases List.mem_cons.mp hz with rfl | hz
    · exact .zero
    · exact .mem hz
  · intro hs
    refine h.zero (q.to.trans fun z hz => ?_) q.off
    rcases List.mem_cons.mp hz with rfl | hz
    · exact hs
    · exact .mem hz
theorem lead_n {n : Nat} {x : Row} (hx : x.length = n) : leadR x = n ↔ x = List.replicate n 0 := by
  constructor
  · intro e; exact zero_of_lead hx (by omega)
  · intro e
    rw [e, lead_zero fun c hc => (List.eq_of_mem_replicate hc), List.length_replicate]
theorem lead_le : ∀ x : Row, leadR x ≤ x.length
  | [] => Nat.le_refl _
  | c :: x => by
    rw [leadR, List.length_cons]
    split
    · have := lead_le x; omega
    · omega
theorem Red.len_le {n : Nat} {S : List Row} (h : Red n S) : S.length ≤ n := by
  have h1 := h.leads
  have : (S.map leadR).Sublist (List.range n) := sub_sorted h1 List.pairwise_lt_range fun k hk => by
    obtain ⟨r, hr, rfl⟩ := List.mem_map.mp hk
    exact List.mem_range.mpr (h.lt r hr)
  have := this.length_le
  rw [List.length_map, List.length_range] at this
  exact this
end SP

/-! Printed by mkGd.py: mirrors that several laws share. -/
namespace SP
open PySem PySem.Spec PyProof.Rows L2 MM
def G_is_integer (a_value : D) : Res D :=
(rN fIsi [a_value, (D.ty .int)]).bind fun d1 =>
(andG d1 (D.bl false) ((rN fIsi [a_value, (D.ty .bool)]).bind fun d4 =>
(notR d4).bind fun d5 =>
.ok d5)).bind fun d6 =>
.ok d6
def G_common (a_a : D) (a_b : D) : Res D :=
(rN fAbs [a_a]).bind fun d1 =>
(rN fAbs [a_b]).bind fun d2 =>
(whR (fun s13 =>
(rc2 cNe s13.2 (D.int 0)).bind fun t16 =>
.ok t16) (fun s13 =>
(r2 fMod s13.1 s13.2).bind fun d17 =>
.ok (s13.2, d17)) 1000000000 (d1, d2)).bind fun s21 =>
.ok s21.1
def G_unit_table (a_n : D) : Res D :=
(rLN rg1 [a_n]).bind fun l1 =>
(mapR (fun x18 =>
(rLN rg1 [a_n]).bind fun l22 =>
(mapR (fun x27 =>
(r2 (cmp cEq) x18 x27).bind fun d31 =>
(rN fInt1 [d31]).bind fun d32 =>
.ok d32) l22).bind fun l33 =>
(rN fTupOf [(D.lst l33)]).bind fun d35 =>
.ok d35) l1).bind fun l36 =>
(rN fTupOf [(D.lst l36)]).bind fun d38 =>
.ok d38
def G_lead_of (a_row : D) : Res D :=
(rLN enumD [a_row]).bind fun l1 =>
(forRF (σ := Unit) (ρ := D) (fun s7 x8 =>
un2 x8 fun x10 x11 =>
(rc2 cNe x11 (D.int 0)).bind fun t14 =>
if t14 = true then
.ok (.rt x10) else
.ok (.nx ())) () l1).bind fun w => fwR w (fun c => .ok c) fun s16 =>
(rN fLen [a_row]).bind fun d17 =>
.ok d17
def G__law_state (a_script : D) : Res D :=
intR (D.int 63) fun i3 =>
(slR a_script none (some i3)).bind fun d4 =>
(rL itS d4).bind fun l6 =>
(forR (fun s32 x33 =>
(r2 fMul s32.1 (D.int 1000003)).bind fun d37 =>
(rN fAbs [x33]).bind fun d38 =>
(r2 fAdd d37 d38).bind fun d39 =>
(r2 fMul s32.2 (D.int 48271)).bind fun d42 =>
(r2 fAdd d42 x33).bind fun d43 =>
(rN fInt1 [d43]).bind fun d45 =>
(r2 fMod d45 (D.int 2147483647)).bind fun d46 =>
.ok (d39, d46)) ((D.int 0), (D.int 1)) l6).bind fun s49 =>
(rc2 cNe s49.2 (D.int 1973665155)).bind fun t51 =>
(if t51 = true then .ok s49.2 else .ok (D.int 7) : Res D).bind fun d52 =>
(rN fLst [s49.1, d52]).bind fun d55 =>
.ok d55
def G__law_take (a_state : D) (a_m : D) : Res (D × D) := noEx (
(bR a_state (Res.bind (.ok (D.int 0)) fun j => r2 fIx a_state j)).bind fun d1 =>
(rc2 cGt d1 (D.int 0)).bind fun t6 =>
if t6 = true then
(bR a_state (Res.bind (.ok (D.int 0)) fun j => r2 fIx a_state j)).bind fun d7 =>
(rN fInt1 [d7]).bind fun d12 =>
(r2 fMod d12 a_m).bind fun d13 =>
(bR a_state (Res.bind (.ok (D.int 0)) fun j => r2 fIx a_state j)).bind fun d15 =>
(r2 fFdiv d15 a_m).bind fun d20 =>
lR a_state (Res.bind (.ok (D.int 0)) fun j => (rSet a_state j d20).bind fun d21 =>
.ok (d13, d21)) else
(bR a_state (Res.bind (.ok (D.int 1)) fun j => r2 fIx a_state j)).bind fun d23 =>
(r2 fMul d23 (D.int 48271)).bind fun d28 =>
(r2 fAdd d28 (D.int 11)).bind fun d29 =>
(rN fInt1 [d29]).bind fun d31 =>
(r2 fMod d31 (D.int 2147483647)).bind fun d32 =>
lR a_state (Res.bind (.ok (D.int 1)) fun j => (rSet a_state j d32).bind fun d33 =>
(bR d33 (Res.bind (.ok (D.int 1)) fun j => r2 fIx d33 j)).bind fun d35 =>
(r2 fFdiv d35 (D.int 7)).bind fun d40 =>
(rN fInt1 [d40]).bind fun d41 =>
(r2 fMod d41 a_m).bind fun d42 =>
.ok (d42, d33)))
def G__law_says (a_value : D) (a_due : D) : Res D :=
(rN fIsi [a_value, (D.ty .bool)]).bind fun d1 =>
(andG d1 (D.bl false) ((r2 (cmp cEq) a_value a_due).bind fun d3 =>
.ok d3)).bind fun d4 =>
.ok d4
def G__law_is_whole (a_value : D) : Res D :=
(rN fIsi [a_value, (D.ty .int)]).bind fun d1 =>
(andG d1 (D.bl false) ((rN fIsi [a_value, (D.ty .bool)]).bind fun d4 =>
(notR d4).bind fun d5 =>
.ok d5)).bind fun d6 =>
.ok d6
def G__law_common (a_a : D) (a_b : D) : Res D :=
(rN fAbs [a_a]).bind fun d1 =>
(rN fAbs [a_b]).bind fun d2 =>
(whR (fun s15 =>
(rc2 cGt s15.2 (D.int 0)).bind fun t18 =>
.ok t18) (fun s15 =>
(rN fInt1 [s15.1]).bind fun d19 =>
(r2 fMod d19 s15.2).bind fun d20 =>
.ok (s15.2, d20)) 1000000000 (d1, d2)).bind fun s24 =>
.ok s24.1
def G__law_unit (a_n : D) : Res D :=
(rLN rg1 [a_n]).bind fun l1 =>
(mapR (fun x18 =>
(rLN rg1 [a_n]).bind fun l22 =>
(mapR (fun x27 =>
(r2 (cmp cEq) x18 x27).bind fun d31 =>
(rN fInt1 [d31]).bind fun d32 =>
.ok d32) l22).bind fun l33 =>
(rN fTupOf [(D.lst l33)]).bind fun d35 =>
.ok d35) l1).bind fun l36 =>
(rN fTupOf [(D.lst l36)]).bind fun d38 =>
.ok d38
def G__law_lead (a_row : D) : Res D :=
(rN fLen [a_row]).bind fun d1 =>
(rLN rg1 [d1]).bind fun l2 =>
(compR (fun x7 =>
(r2 fIx a_row x7).bind fun d11 =>
(rc2 cNe d11 (D.int 0)).bind fun t12 =>
if t12 = true then
.ok (some x7) else .ok none) l2).bind fun l13 =>
(rN fLen [(D.lst l13)]).bind fun d17 =>
(rc2 cGt d17 (D.int 0)).bind fun t18 =>
(if t18 = true then (r2 fIx (D.lst l13) (D.int 0)).bind fun d22 =>
.ok d22 else (rN fLen [a_row]).bind fun d23 =>
.ok d23 : Res D).bind fun d21 =>
.ok d21
def G_is_row (a_value : D) : Res D :=
(rN fIsi [a_value, (D.ty .tuple)]).bind fun d1 =>
(andG d1 (D.bl false) ((rL itS a_value).bind fun l16 =>
(mapR (fun x21 =>
(G_is_integer x21).bind fun d25 =>
.ok d25) l16).bind fun l27 =>
(rN fAll [(D.lst l27)]).bind fun d29 =>
.ok d29)).bind fun d30 =>
.ok d30
def G_check_from (mf : Nat) (a_n : D) (a_low : D) (a_high : D) : Res D :=
(G_is_integer a_n).bind fun d1 =>
(rTru d1).bind fun t3 =>
(orB (!t3) true ((chR cLe cLe a_low a_n (.ok a_high)).bind fun t6 =>
.ok (!t6))).bind fun t8 =>
if t8 = true then
.ex ⟨mf, none⟩ else
.ok .non
def G_common_of (a_row : D) : Res D :=
(rL itS a_row).bind fun l2 =>
(forRF (σ := D) (ρ := D) (fun s15 x16 =>
(G_common s15 x16).bind fun d19 =>
(rc2 cEq d19 (D.int 1)).bind fun t23 =>
if t23 = true then
.ok (.rt (D.int 1)) else
.ok (.nx d19)) (D.int 0) l2).bind fun w => fwR w (fun c => .ok c) fun s25 =>
.ok s25
def G_whole_space (a_n : D) : Res D :=
(G_unit_table a_n).bind fun d1 =>
.ok d1
def G__law_slim (a_row : D) : Res D :=
(rL itS a_row).bind fun l2 =>
(forR (fun s12 x13 =>
(G__law_common s12 x13).bind fun d17 =>
.ok d17) (D.int 0) l2).bind fun s21 =>
(rc2 cEq s21 (D.int 0)).bind fun t23 =>
if t23 = true then
(rN fTupOf [a_row]).bind fun d24 =>
.ok d24 else
(rL itS a_row).bind fun l25 =>
(compR (fun x29 =>
(rc2 cNe x29 (D.int 0)).bind fun t33 =>
if t33 = true then
.ok (some x29) else .ok none) l25).bind fun l34 =>
(r2 fIx (D.lst l34) (D.int 0)).bind fun d36 =>
(rc2 cGt d36 (D.int 0)).bind fun t38 =>
(if t38 = true then .ok s21 else (r1 fNeg s21).bind fun d41 =>
.ok d41 : Res D).bind fun d40 =>
(rL itS a_row).bind fun l45 =>
(mapR (fun x50 =>
(r2 fFdiv x50 d40).bind fun d55 =>
.ok d55) l45).bind fun l56 =>
(rN fTupOf [(D.lst l56)]).bind fun d58 =>
.ok d58
def G__law_number (a_state : D) : Res (D × D) := noEx (
(G__law_take a_state (D.int 7)).bind fun p1 =>
(r2 fSub p1.1 (D.int 3)).bind fun d4 =>
.ok (d4, p1.2))
def G_check_row (mf : Nat) (a_value : D) (a_n : D) : Res D :=
(G_is_row a_value).bind fun d1 =>
(rTru d1).bind fun t3 =>
(orB (!t3) true ((rN fLen [a_value]).bind fun d6 =>
(rc2 cNe d6 a_n).bind fun t7 =>
.ok t7)).bind fun t8 =>
if t8 = true then
.ex ⟨mf, none⟩ else
.ok .non
def G_is_rows (a_value : D) (a_n : D) : Res D :=
(rN fTup [(D.ty .list), (D.ty .tuple)]).bind fun d1 =>
(rN fIsiA [a_value, d1]).bind fun d2 =>
(andG d2 (D.bl false) ((rL itS a_value).bind fun l31 =>
(mapR (fun x43 =>
(G_is_row x43).bind fun d47 =>
(andG d47 (D.bl false) ((rN fLen [x43]).bind fun d51 =>
(r2 (cmp cEq) d51 a_n).bind fun d52 =>
.ok d52)).bind fun d53 =>
.ok d53) l31).bind fun l56 =>
(rN fAll [(D.lst l56)]).bind fun d58 =>
.ok d58)).bind fun d59 =>
.ok d59
def G_slim (a_row : D) : Res D :=
(G_common_of a_row).bind fun d1 =>
(rc2 cEq d1 (D.int 0)).bind fun t5 =>
if t5 = true then
(rN fTupOf [a_row]).bind fun d6 =>
.ok d6 else
(rL itS a_row).bind fun l7 =>
(compR (fun x11 =>
(rc2 cNe x11 (D.int 0)).bind fun t15 =>
if t15 = true then
.ok (some x11) else .ok none) l7).bind fun l16 =>
(r2 fIx (D.lst l16) (D.int 0)).bind fun d18 =>
(rc2 cLt d18 (D.int 0)).bind fun t20 =>
(if t20 = true then (r1 fNeg d1).bind fun d23 =>
.ok d23 else .ok d1 : Res D).bind fun d22 =>
(rL itS a_row).bind fun l27 =>
(mapR (fun x32 =>
(r2 fFdiv x32 d22).bind fun d37 =>
.ok d37) l27).bind fun l38 =>
(rN fTupOf [(D.lst l38)]).bind fun d40 =>
.ok d40
def G__law_least (a_rows : D) (a_n : D) : Res D :=
(rL itS a_rows).bind fun l1 =>
(mapR (fun x5 =>
(rN fTupOf [x5]).bind fun d9 =>
.ok d9) l1).bind fun l10 =>
(rN fLst []).bind fun d12 =>
(rLN rg1 [a_n]).bind fun l16 =>
(forR (fun s572 x573 =>
(rL itS s572.1).bind fun l577 =>
(compR (fun x582 =>
(r2 fIx x582 x573).bind fun d586 =>
(rc2 cNe d586 (D.int 0)).bind fun t587 =>
if t587 = true then
.ok (some x582) else .ok none) l577).bind fun l588 =>
(rN fLen [(D.lst l588)]).bind fun d592 =>
(rc2 cGt d592 (D.int 0)).bind fun t593 =>
(if t593 = true then
(r2 fIx (D.lst l588) (D.int 0)).bind fun d723 =>
(rL itS s572.1).bind fun l725 =>
(mapR (fun x753 =>
(rLN rg1 [a_n]).bind fun l757 =>
(mapR (fun x767 =>
(r2 fIx d723 x573).bind fun d771 =>
(r2 fIx x753 x767).bind fun d772 =>
(r2 fMul d771 d772).bind fun d773 =>
(r2 fIx x753 x573).bind fun d774 =>
(r2 fIx d723 x767).bind fun d775 =>
(r2 fMul d774 d775).bind fun d776 =>
(r2 fSub d773 d776).bind fun d777 =>
.ok d777) l757).bind fun l778 =>
(G__law_slim (D.lst l778)).bind fun d780 =>
.ok d780) l725).bind fun l782 =>
(rL itS s572.2).bind fun l786 =>
(mapR (fun x814 =>
(rLN rg1 [a_n]).bind fun l818 =>
(mapR (fun x828 =>
(r2 fIx d723 x573).bind fun d832 =>
(r2 fIx x814 x828).bind fun d833 =>
(r2 fMul d832 d833).bind fun d834 =>
(r2 fIx x814 x573).bind fun d835 =>
(r2 fIx d723 x828).bind fun d836 =>
(r2 fMul d835 d836).bind fun d837 =>
(r2 fSub d834 d837).bind fun d838 =>
.ok d838) l818).bind fun l839 =>
(G__law_slim (D.lst l839)).bind fun d841 =>
.ok d841) l786).bind fun l843 =>
(G__law_slim d723).bind fun d845 =>
(rN fLst [d845]).bind fun d847 =>
(r2 fAdd (D.lst l843) d847).bind fun d849 =>
.ok ((D.lst l782), d849) else
.ok (s572.1, s572.2) : Res (D × D)).bind fun s852 =>
.ok (s852.1, s852.2)) ((D.lst l10), d12) l16).bind fun s855 =>
(rN fTupOf [s855.2]).bind fun d857 =>
.ok d857
def G__law_row (a_state : D) (a_n : D) : Res (D × D) := noEx (
(rLN rg1 [a_n]).bind fun l1 =>
(mapSR (fun s10 x11 =>
(G__law_number s10).bind fun p15 =>
.ok (p15.1, p15.2)) a_state l1).bind fun l18 =>
(rN fTupOf [(D.lst l18.1)]).bind fun d20 =>
.ok (d20, l18.2))
def G__law_is_space (a_value : D) (a_n : D) : Res D :=
(rN fIsi [a_value, (D.ty .tuple)]).bind fun d1 =>
(rTru d1).bind fun t2 =>
(orB (!t2) true ((rL itS a_value).bind fun l154 =>
(mapR (fun x227 =>
(rN fIsi [x227, (D.ty .tuple)]).bind fun d231 =>
(andG d231 (D.bl false) ((rN fLen [x227]).bind fun d265 =>
(r2 (cmp cEq) d265 a_n).bind fun d266 =>
(andG d266 (D.bl false) ((rL itS x227).bind fun l281 =>
(mapR (fun x286 =>
(G__law_is_whole x286).bind fun d290 =>
.ok d290) l281).bind fun l292 =>
(rN fAll [(D.lst l292)]).bind fun d294 =>
.ok d294)).bind fun d295 =>
.ok d295)).bind fun d298 =>
.ok d298) l154).bind fun l301 =>
(rN fAll [(D.lst l301)]).bind fun d303 =>
(rTru d303).bind fun t304 =>
.ok (!t304))).bind fun t305 =>
if t305 = true then
.ok (D.bl false) else
(rL itS a_value).bind fun l307 =>
(mapR (fun x312 =>
(G__law_lead x312).bind fun d316 =>
.ok d316) l307).bind fun l318 =>
(rN fLen [a_value]).bind fun d321 =>
(rLN rg1 [d321]).bind fun l322 =>
(forRF (σ := Unit) (ρ := D) (fun s591 x592 =>
(r2 fIx (D.lst l318) x592).bind fun d596 =>
(rc2 cEq d596 a_n).bind fun t597 =>
(orB t597 true ((r2 fIx a_value x592).bind fun d662 =>
(r2 fIx (D.lst l318) x592).bind fun d663 =>
(r2 fIx d662 d663).bind fun d664 =>
(rc2 cLt d664 (D.int 0)).bind fun t665 =>
(orB t665 true ((r2 fIx a_value x592).bind fun d695 =>
(G__law_slim d695).bind fun d696 =>
(r2 fIx a_value x592).bind fun d698 =>
(rc2 cNe d696 d698).bind fun t699 =>
(orB t699 true ((rc2 cGt x592 (D.int 0)).bind fun t711 =>
(andB t711 false ((r2 fIx (D.lst l318) x592).bind fun d716 =>
(r2 fSub x592 (D.int 1)).bind fun d717 =>
(r2 fIx (D.lst l318) d717).bind fun d718 =>
(rc2 cLe d716 d718).bind fun t719 =>
.ok t719)).bind fun t720 =>
.ok t720)).bind fun t722 =>
.ok t722)).bind fun t724 =>
.ok t724)).bind fun t726 =>
if t726 = true then
.ok (.rt (D.bl false)) else
.ok (.nx ())) () l322).bind fun w => fwR w (fun c => .ok c) fun s729 =>
(rN fLen [a_value]).bind fun d730 =>
(rLN rg1 [d730]).bind fun l731 =>
(mapR (fun x757 =>
(rN fLen [a_value]).bind fun d761 =>
(rLN rg1 [d761]).bind fun l762 =>
(compR (fun x771 =>
(rc2 cNe x771 x757).bind fun t775 =>
if t775 = true then
(r2 fIx a_value x771).bind fun d776 =>
(r2 fIx (D.lst l318) x757).bind fun d778 =>
(r2 fIx d776 d778).bind fun d779 =>
(r2 (cmp cEq) d779 (D.int 0)).bind fun d780 =>
.ok (some d780) else .ok none) l762).bind fun l781 =>
(rN fAll [(D.lst l781)]).bind fun d783 =>
.ok d783) l731).bind fun l784 =>
(rN fAll [(D.lst l784)]).bind fun d786 =>
.ok d786
def G_check_rows (mf : Nat) (a_value : D) (a_n : D) : Res D :=
(G_check_from mf a_n (D.int 0) (D.int 256)).bind fun d1 =>
(G_is_rows a_value a_n).bind fun d3 =>
(rTru d3).bind fun t5 =>
if (!t5) = true then
.ex ⟨mf, none⟩ else
.ok .non
def G_cleared (a_row : D) (a_lead : D) (a_k : D) : Res D :=
(r2 fIx a_row a_k).bind fun d1 =>
(rc2 cEq d1 (D.int 0)).bind fun t2 =>
if t2 = true then
.ok a_row else
(r2 fIx a_lead a_k).bind fun d3 =>
(r2 fIx a_row a_k).bind fun d4 =>
(rN fTup [d3, d4]).bind fun d5 =>
un2 d5 fun x6 x7 =>
(rLN zipD [a_row, a_lead]).bind fun l10 =>
(mapR (fun x19 =>
un2 x19 fun x22 x23 =>
(r2 fMul x6 x22).bind fun d26 =>
(r2 fMul x7 x23).bind fun d27 =>
(r2 fSub d26 d27).bind fun d28 =>
.ok d28) l10).bind fun l29 =>
(G_slim (D.lst l29)).bind fun d31 =>
.ok d31
def G__law_rank (a_rows : D) (a_n : D) : Res D :=
(G__law_least a_rows a_n).bind fun d1 =>
(rN fLen [d1]).bind fun d3 =>
.ok d3
def G__law_drawn_rows (a_state : D) (a_n : D) : Res (D × D) := noEx (
(G__law_take a_state (D.int 4)).bind fun p1 =>
(rLN rg1 [p1.1]).bind fun l4 =>
(mapSR (fun s13 x14 =>
(G__law_row s13 a_n).bind fun p18 =>
.ok (p18.1, p18.2)) p1.2 l4).bind fun l21 =>
(rN fLen [(D.lst l21.1)]).bind fun d24 =>
(rc2 cGt d24 (D.int 1)).bind fun t26 =>
(andB t26 (false, l21.2) ((G__law_take l21.2 (D.int 2)).bind fun p31 =>
(rc2 cEq p31.1 (D.int 0)).bind fun t34 =>
.ok (t34, p31.2))).bind fun t35 =>
(if t35.1 = true then
lR (D.lst l21.1) (
(rLN rg1 [a_n]).bind fun l79 =>
(mapR (fun x96 =>
(Res.bind (.ok (D.int 0)) fun j => r2 fIx (D.lst l21.1) j).bind fun d100 =>
(r2 fIx d100 x96).bind fun d105 =>
(r2 fMul (D.int 2) d105).bind fun d106 =>
(Res.bind (.ok (D.int 1)) fun j => r2 fIx (D.lst l21.1) j).bind fun d107 =>
(r2 fIx d107 x96).bind fun d112 =>
(r2 fSub d106 d112).bind fun d113 =>
.ok d113) l79).bind fun l114 =>
(rN fTupOf [(D.lst l114)]).bind fun d116 =>
(rOwn fAppend (D.lst l21.1) [d116]).bind fun p117 =>
.ok p117.2) else
.ok (D.lst l21.1) : Res D).bind fun s119 =>
(G__law_take t35.2 (D.int 3)).bind fun p121 =>
(rc2 cEq p121.1 (D.int 0)).bind fun t124 =>
(if t124 = true then
lR s119 (
(rN fTup [(D.int 0)]).bind fun d131 =>
(r2 fMul d131 a_n).bind fun d132 =>
(rOwn fAppend s119 [d132]).bind fun p133 =>
.ok p133.2) else
.ok s119 : Res D).bind fun s135 =>
.ok (s135, p121.2))
def G_space_of (mf : Nat) (a_rows : D) (a_n : D) : Res D :=
(G_check_rows mf a_rows a_n).bind fun d1 =>
(rL itS a_rows).bind fun l3 =>
(compR (fun x11 =>
(G_lead_of x11).bind fun d15 =>
(rc2 cLt d15 a_n).bind fun t17 =>
if t17 = true then
(G_slim x11).bind fun d18 =>
.ok (some d18) else .ok none) l3).bind fun l20 =>
(rN fLst []).bind fun d23 =>
(rLN rg1 [a_n]).bind fun l26 =>
(forR (fun s329 x330 =>
lstR s329.1 fun l333 =>
(compR (fun x344 =>
un2 x344 fun x347 x348 =>
(r2 fIx x348 x330).bind fun d351 =>
(rc2 cNe d351 (D.int 0)).bind fun t352 =>
if t352 = true then
.ok (some x347) else .ok none) (enumL l333)).bind fun l353 =>
(rN fLen [(D.lst l353)]).bind fun d357 =>
(rc2 cGt d357 (D.int 0)).bind fun t358 =>
(if t358 = true then
lR s329.1 (
(r2 fIx (D.lst l353) (D.int 0)).bind fun d421 =>
(rOwn fPopA s329.1 [d421]).bind fun p422 =>
lstR p422.2 fun l425 =>
(mapR (fun x433 =>
(G_cleared x433 p422.1 x330).bind fun d437 =>
.ok d437) l425).bind fun l439 =>
lstR (D.lst l439) fun l442 =>
(compR (fun x451 =>
(G_lead_of x451).bind fun d455 =>
(rc2 cLt d455 a_n).bind fun t457 =>
if t457 = true then
.ok (some x451) else .ok none) l442).bind fun l458 =>
lstR s329.2 fun l461 =>
(mapR (fun x469 =>
(G_cleared x469 p422.1 x330).bind fun d473 =>
.ok d473) l461).bind fun l475 =>
lR (D.lst l475) (
(rOwn fAppend (D.lst l475) [p422.1]).bind fun p479 =>
.ok ((D.lst l458), p479.2))) else
.ok (s329.1, s329.2) : Res (D × D)).bind fun s481 =>
.ok (s481.1, s481.2)) ((D.lst l20), d23) l26).bind fun s484 =>
lstR s484.2 fun l485 =>
(mapR (fun x493 =>
(G_slim x493).bind fun d497 =>
.ok d497) l485).bind fun l499 =>
(rN fTupOf [(D.lst l499)]).bind fun d501 =>
.ok d501
def G_rest_of (a_row : D) (a_space : D) : Res D :=
(rN fTupOf [a_row]).bind fun d1 =>
(rL itS a_space).bind fun l3 =>
(forR (fun s17 x18 =>
(G_lead_of x18).bind fun d22 =>
(G_cleared s17 x18 d22).bind fun d24 =>
.ok d24) d1 l3).bind fun s28 =>
.ok s28
def G__law_within (a_row : D) (a_rows : D) (a_n : D) : Res D :=
(rN fLstOf [a_rows]).bind fun d1 =>
(rN fLst [a_row]).bind fun d3 =>
(r2 fAdd d1 d3).bind fun d5 =>
(G__law_rank d5 a_n).bind fun d7 =>
(G__law_rank a_rows a_n).bind fun d9 =>
(r2 (cmp cEq) d7 d9).bind fun d11 =>
.ok d11
def G_is_space (mf : Nat) (a_value : D) (a_n : D) : Res D :=
(rN fIsi [a_value, (D.ty .tuple)]).bind fun d1 =>
(andG d1 (D.bl false) ((G_is_rows a_value a_n).bind fun d13 =>
(andG d13 (D.bl false) ((G_space_of mf a_value a_n).bind fun d18 =>
(r2 (cmp cEq) d18 a_value).bind fun d20 =>
.ok d20)).bind fun d21 =>
.ok d21)).bind fun d24 =>
.ok d24
def G_rank_of (mf : Nat) (a_rows : D) (a_n : D) : Res D :=
(G_space_of mf a_rows a_n).bind fun d1 =>
(rN fLen [d1]).bind fun d3 =>
.ok d3
def G_check_space (mf : Nat) (a_value : D) (a_n : D) : Res D :=
(G_check_from mf a_n (D.int 0) (D.int 256)).bind fun d1 =>
(G_is_space mf a_value a_n).bind fun d3 =>
(rTru d3).bind fun t5 =>
if (!t5) = true then
.ex ⟨mf, none⟩ else
.ok .non
def G_is_within (mf : Nat) (a_row : D) (a_space : D) (a_n : D) : Res D :=
(G_check_row mf a_row a_n).bind fun d1 =>
(G_check_space mf a_space a_n).bind fun d3 =>
(G_rest_of a_row a_space).bind fun d5 =>
(rN fTup [(D.int 0)]).bind fun d7 =>
(r2 fMul d7 a_n).bind fun d8 =>
(r2 (cmp cEq) d5 d8).bind fun d9 =>
.ok d9
def G_is_part (mf : Nat) (a_one : D) (a_two : D) (a_n : D) : Res D :=
(G_check_space mf a_one a_n).bind fun d1 =>
(G_check_space mf a_two a_n).bind fun d3 =>
(rL itS a_one).bind fun l5 =>
(mapR (fun x13 =>
(G_rest_of x13 a_two).bind fun d17 =>
(G_lead_of d17).bind fun d19 =>
(r2 (cmp cEq) d19 a_n).bind fun d21 =>
.ok d21) l5).bind fun l22 =>
(rN fAll [(D.lst l22)]).bind fun d24 =>
.ok d24
def G_free_places (mf : Nat) (a_space : D) (a_n : D) : Res D :=
(G_check_space mf a_space a_n).bind fun d1 =>
(rL itS a_space).bind fun l3 =>
(mapR (fun x8 =>
(G_lead_of x8).bind fun d12 =>
.ok d12) l3).bind fun l14 =>
(rLN rg1 [a_n]).bind fun l17 =>
(compR (fun x25 =>
(rc2 cNotIn x25 (D.lst l14)).bind fun t30 =>
if t30 = true then
.ok (some x25) else .ok none) l17).bind fun l31 =>
(rN fTupOf [(D.lst l31)]).bind fun d33 =>
.ok d33
def G_is_direct (mf : Nat) (a_spaces : D) (a_n : D) : Res D :=
(rN fLst []).bind fun d1 =>
(rL itS a_spaces).bind fun l4 =>
(forR (fun s21 x22 =>
(G_check_space mf x22 a_n).bind fun d25 =>
lR s21 (
(rN fLstOf [x22]).bind fun d28 =>
(rOwn fExtend s21 [d28]).bind fun p30 =>
.ok p30.2)) d1 l4).bind fun s33 =>
(G_rank_of mf s33 a_n).bind fun d35 =>
(rN fLen [s33]).bind fun d37 =>
(r2 (cmp cEq) d35 d37).bind fun d39 =>
.ok d39
def G_beside (mf : Nat) (a_space : D) (a_n : D) : Res D :=
(G_unit_table a_n).bind fun d1 =>
(G_free_places mf a_space a_n).bind fun d4 =>
(rL itS d4).bind fun l6 =>
(mapR (fun x11 =>
(r2 fIx d1 x11).bind fun d16 =>
.ok d16) l6).bind fun l17 =>
(rN fTupOf [(D.lst l17)]).bind fun d19 =>
.ok d19
def H__law_same (self : D → D → Res D) (a_one : D) (a_two : D) : Res D :=
(rN fIsi [a_two, (D.ty .bool)]).bind fun d1 =>
(rTru d1).bind fun t2 =>
if t2 = true then
(rN fIsi [a_one, (D.ty .bool)]).bind fun d3 =>
(andG d3 (D.bl false) ((r2 (cmp cEq) a_one a_two).bind fun d5 =>
.ok d5)).bind fun d6 =>
.ok d6 else
(rN fIsi [a_two, (D.ty .tuple)]).bind fun d9 =>
(rTru d9).bind fun t10 =>
if t10 = true then
(rN fIsi [a_one, (D.ty .tuple)]).bind fun d11 =>
(andG d11 (D.bl false) ((rN fLen [a_one]).bind fun d56 =>
(rN fLen [a_two]).bind fun d57 =>
(r2 (cmp cEq) d56 d57).bind fun d58 =>
(andG d58 (D.bl false) ((rN fLen [a_two]).bind fun d78 =>
(rLN rg1 [d78]).bind fun l79 =>
(mapR (fun x86 =>
(r2 fIx a_one x86).bind fun d90 =>
(r2 fIx a_two x86).bind fun d91 =>
(self d90 d91).bind fun d92 =>
.ok d92) l79).bind fun l94 =>
(rN fAll [(D.lst l94)]).bind fun d96 =>
.ok d96)).bind fun d97 =>
.ok d97)).bind fun d100 =>
.ok d100 else
(rN fIsi [a_two, (D.ty .list)]).bind fun d103 =>
(rTru d103).bind fun t104 =>
if t104 = true then
(rN fIsi [a_one, (D.ty .tuple)]).bind fun d105 =>
(andG d105 (D.bl false) ((rN fTupOf [a_two]).bind fun d109 =>
(self a_one d109).bind fun d110 =>
.ok d110)).bind fun d112 =>
.ok d112 else
(rN fIsi [a_two, (D.ty .str)]).bind fun d115 =>
(rTru d115).bind fun t116 =>
if t116 = true then
(rN fIsi [a_one, (D.ty .str)]).bind fun d117 =>
(andG d117 (D.bl false) ((r2 (cmp cEq) a_one a_two).bind fun d119 =>
.ok d119)).bind fun d120 =>
.ok d120 else
(rc2 cIsN a_two D.non).bind fun t123 =>
if t123 = true then
(r2 (cmp cIsN) a_one D.non).bind fun d124 =>
.ok d124 else
(G__law_is_whole a_one).bind fun d125 =>
(andG d125 (D.bl false) ((r2 (cmp cEq) a_one a_two).bind fun d128 =>
.ok d128)).bind fun d129 =>
.ok d129
def G__law_same : Nat → D → D → Res D
  | 0, _, _ => .stuck
  | n + 1, a_one, a_two => H__law_same (G__law_same n) a_one a_two
end SP

/-! SP: what the mirrors of whole, tables, spaces give on rows of numbers. -/
namespace SP
open PySem PySem.Spec PyProof.Rows L2 MM
theorem bind_okr {α : Type} (r : Res α) : (r.bind fun d => .ok d) = r := by cases r <;> rfl
theorem bd_ok {α β : Type} {r : Res α} {a : α} {f : α → Res β} {o : Res β} (h : r = .ok a) (h2 : f a = o) : r.bind f = o := by rw [h]; exact h2
theorem mapR_id {f : D → Res D} {g : D → D} {L : List D} (h : ∀ x ∈ L, f x = .ok (g x)) (hl : L.length ≤ 16000000) : mapR f L = .ok (L.map g) := by
  have := mapR_eq (mk := fun x : D => x) (g := g) (L := L) h hl
  rw [List.map_id'] at this
  exact this
/-! ### gcd -/
theorem nat_fmod {x y : Nat} (h : 0 < y) : (x : Int).fmod (y : Int) = ((x % y : Nat) : Int) := by
  rw [Int.fmod_eq_emod_of_nonneg _ (by omega)]
  omega
theorem euclid {c : D × D → Res Bool} {f : D × D → Res (D × D)} (hc : ∀ x y : Nat, c (.int x, .int y) = .ok (decide (0 < y))) (hf : ∀ x y : Nat, 0 < y → f (.int x, .int y) = .ok (.int y, .int ((x % y : Nat) : Int))) :
    ∀ (m fuel x y : Nat), y < 2 ^ m → 2 * m + 1 ≤ fuel → whR c f fuel (.int x, .int y) = .ok (.int (Nat.gcd x y : Nat), .int (0 : Nat))
  | m, 0, x, y, _, h => absurd h (by omega)
  | 0, fuel + 1, x, y, hy, _ => by
    have : y = 0 := by rw [Nat.pow_zero] at hy; omega
    subst this
    rw [whR_end (hc x 0), Nat.gcd_zero_right]
  | m + 1, fuel + 1, x, y, hy, hf' => by
    rcases Nat.eq_zero_or_pos y with h0 | h0
    · subst h0
      rw [whR_end (hc x 0), Nat.gcd_zero_right]
    · rw [whR_step (by rw [hc, decide_eq_true h0]) (hf x y h0)]
      have hr : x % y < y := Nat.mod_lt x h0
      have e1 : Nat.gcd x y = Nat.gcd y (x % y) := by rw [Nat.gcd_comm x, Nat.gcd_rec, Nat.gcd_comm]
      obtain ⟨fu, rfl⟩ : ∃ f, fuel = f + 1 := ⟨fuel - 1, by omega⟩
      rcases Nat.eq_zero_or_pos (x % y) with h1 | h1
      · rw [e1, h1, whR_end (hc y 0), Nat.gcd_zero_right]
      · rw [whR_step (by rw [hc, decide_eq_true h1]) (hf y (x % y) h1)]
        have h2 : y % (x % y) < 2 ^ m := by
          have a := Nat.mod_lt y h1
          have b := Nat.div_add_mod y (x % y)
          have c : 1 ≤ y / (x % y) := (Nat.one_le_div_iff h1).mpr (Nat.le_of_lt hr)
          have d : x % y ≤ (x % y) * (y / (x % y)) := Nat.le_mul_of_pos_right _ c
          rw [Nat.pow_succ] at hy
          omega
        have e2 : Nat.gcd y (x % y) = Nat.gcd (x % y) (y % (x % y)) := by rw [Nat.gcd_comm y, Nat.gcd_rec, Nat.gcd_comm]
        rw [euclid hc hf m fu (x % y) (y % (x % y)) h2 (by omega), e1, e2]
theorem common_ok (a b : Int) (h : b.natAbs < 2 ^ 100000) : G_common (.int a) (.int b) = .ok (.int (Int.gcd a b : Nat)) := by
  unfold G_common
  rw [r_absi, Res.ok_bind, r_absi, Res.ok_bind]
  refine bd_ok (euclid (fun x y => ?_) (fun x y hy => ?_) 100000 1000000000 a.natAbs b.natAbs h (by decide)) rfl
  · show ((rc2 cNe (.int (y : Nat)) (.int 0)).bind fun t => .ok t) = _
    rw [rc_ne, bind_okr]
    congr 1
    exact decide_eq_decide.mpr (by omega)
  · show ((r2 fMod (.int (x : Nat)) (.int (y : Nat))).bind fun d => .ok (D.int (y : Nat), d)) = _
    rw [r_fmod (by omega), nat_fmod hy]
    rfl
theorem lcommon_ok (a b : Int) (h : b.natAbs < 2 ^ 100000) : G__law_common (.int a) (.int b) = .ok (.int (Int.gcd a b : Nat)) := by
  unfold G__law_common
  rw [r_absi, Res.ok_bind, r_absi, Res.ok_bind]
  refine bd_ok (euclid (fun x y => ?_) (fun x y hy => ?_) 100000 1000000000 a.natAbs b.natAbs h (by decide)) rfl
  · show ((rc2 cGt (.int (y : Nat)) (.int 0)).bind fun t => .ok t) = _
    rw [rc_gt, bind_okr]
    congr 1
    exact decide_eq_decide.mpr (by omega)
  · show ((rN fInt1 [.int (x : Nat)]).bind fun d => (r2 fMod d (.int (y : Nat))).bind fun d => .ok (D.int (y : Nat), d)) = _
    rw [r_int1, Res.ok_bind, r_fmod (by omega), nat_fmod hy]
    rfl
/-! ### slim -/
def isL (d : D) (xs : List D) : Prop := rL itS d = .ok xs ∧ rN fTupOf [d] = .ok (.tup xs) ∧ rN fLstOf [d] = .ok (.lst xs) ∧ rN fLen [d] = .ok (.int (xs.length : Nat)) ∧ rLN enumD [d] = .ok (enumL xs)
theorem isL_tup (xs : List D) : isL (.tup xs) xs := ⟨rfl, rfl, rfl, rfl, rfl⟩
theorem isL_rw (row : Row) : isL (rw row) (row.map .int) := isL_tup _
theorem isL_lst (xs : List D) : isL (.lst xs) xs := ⟨rfl, rfl, rfl, rfl, rfl⟩
theorem common_of_loop : ∀ (row : Row) (g : Nat), Bd 100000 row →
    forRF (σ := D) (ρ := D) (fun s x => (G_common s x).bind fun d => (rc2 cEq d (D.int 1)).bind fun t => if t = true then .ok (.rt (D.int 1)) else .ok (.nx d)) (.int (g : Nat)) (row.map .int) =
      .ok (.nx (.int (row.foldl gF g : Nat))) ∨ (row.foldl gF g = 1 ∧ forRF (σ := D) (ρ := D) (fun s x => (G_common s x).bind fun d => (rc2 cEq d (D.int 1)).bind fun t => if t = true then .ok (.rt (D.int 1)) else .ok (.nx d)) (.int (g : Nat)) (row.map .int) = .ok (.rt (.int 1)))
  | [], g, _ => .inl rfl
  | c :: row, g, h => by
    have hc := common_ok (g : Nat) c (h c List.mem_cons_self)
    rw [List.map_cons, List.foldl_cons, forRF, hc, Res.ok_bind, rc_eq, Res.ok_bind]
    by_cases h1 : gF g c = 1
    · right
      rw [if_pos (decide_eq_true (show ((Int.gcd (g : Nat) c : Nat) : Int) = 1 by show ((gF g c : Nat) : Int) = 1; omega)), Res.ok_bind, h1]
      exact ⟨gF_one row, rfl⟩
    · rw [if_neg (by rw [decide_eq_true_eq]; show ¬ ((gF g c : Nat) : Int) = 1; omega), Res.ok_bind]
      exact common_of_loop row (gF g c) fun x hx => h x (List.mem_cons_of_mem _ hx)
theorem common_of_ok {d : D} {row : Row} (hd : isL d (row.map .int)) (h : Bd 100000 row) : G_common_of d = .ok (.int (gcdR row : Nat)) := by
  unfold G_common_of
  rw [hd.1, Res.ok_bind]
  rcases common_of_loop row 0 h with e | ⟨e1, e⟩
  · exact bd_ok e rfl
  · refine bd_ok e ?_
    show Res.ok (D.int 1) = Res.ok (D.int ((row.foldl gF 0 : Nat) : Int))
    rw [e1]
    rfl
theorem nz_dec (c : Int) : nz c = decide (c ≠ 0) := by
  unfold nz
  by_cases h : c = 0
  · subst h; rfl
  · simp [h]
theorem sgn_lt {row : Row} {b : Nat} (h : Bd b row) (hb : b ≤ 8999) (h0 : gcdR row ≠ 0) : sgnG row ≠ 0 ∧ (sgnG row).natAbs.log2 < 9000 := by
  have h1 := gcdR_lt h
  have h2 : (sgnG row).natAbs = gcdR row := by unfold sgnG; split <;> omega
  refine ⟨by unfold sgnG; split <;> omega, ?_⟩
  rw [h2]
  exact Nat.lt_of_lt_of_le ((Nat.log2_lt h0).mpr h1) (by omega)
theorem filter_nz (row : Row) : compR (fun x => (rc2 cNe x (D.int 0)).bind fun t => if t = true then .ok (some x) else .ok none) (row.map .int) = .ok ((row.filter nz).map .int) ∨ 16000000 < row.length := by
  by_cases hl : row.length ≤ 16000000
  · left
    refine compR_eq (fun x _ => ?_) hl
    rw [rc_ne, Res.ok_bind, nz_dec]
    cases decide (x ≠ 0) <;> rfl
  · right; omega
theorem divs_ok {row : Row} {s : Int} (h0 : s ≠ 0) (hs : s.natAbs.log2 < 9000) (hl : row.length ≤ 1000000) : mapR (fun x => (r2 fFdiv x (.int s)).bind fun d => .ok d) (row.map .int) = .ok ((row.map fun c => Int.fdiv c s).map .int) := by
  rw [List.map_map]
  exact mapR_eq (g := fun c => D.int (Int.fdiv c s)) (fun x _ => by rw [r_fdiv h0 hs]; rfl) (Nat.le_trans hl (by decide))
theorem slim_ok {d : D} {row : Row} (hd : isL d (row.map .int)) (h : Bd 8900 row) (hl : row.length ≤ 1000000) : G_slim d = .ok (rw (slimR row)) := by
  unfold G_slim
  rw [common_of_ok hd (h.mono (by decide)), Res.ok_bind, rc_eq, Res.ok_bind]
  by_cases h0 : gcdR row = 0
  · rw [if_pos (decide_eq_true (by rw [h0]; rfl)), hd.2.1]
    unfold slimR
    rw [if_pos h0]
    rfl
  · rw [if_neg (by rw [decide_eq_true_eq]; omega), hd.1, Res.ok_bind]
    obtain ⟨c, rest, e1, hc, hm⟩ := nz_row h0
    have hf : fstNZ row = c := by unfold fstNZ; rw [e1]; rfl
    obtain ⟨q1, q2⟩ := sgn_lt h (by decide) h0
    rcases filter_nz row with e | e
    · rw [e, Res.ok_bind, e1, List.map_cons, r_ixL0, Res.ok_bind, rc_lt, Res.ok_bind]
      have es : (if decide (c < 0) = true then (r1 fNeg (.int (gcdR row : Nat))).bind fun d => .ok d else .ok (.int (gcdR row : Nat)) : Res D) = .ok (.int (sgnG row)) := by
        unfold sgnG
        rw [hf]
        by_cases hn : c < 0
        · rw [if_pos (decide_eq_true hn), if_pos hn]; rfl
        · rw [if_neg (by rw [decide_eq_true_eq]; exact hn), if_neg hn]
      rw [es, Res.ok_bind, Res.ok_bind, divs_ok q1 q2 hl, Res.ok_bind]
      unfold slimR
      rw [if_neg h0]
      rfl
    · omega
theorem law_gcd : ∀ (row : Row) (g : Nat), Bd 100000 row → forR (fun s x => (G__law_common s x).bind fun d => .ok d) (.int (g : Nat)) (row.map .int) = .ok (.int (row.foldl gF g : Nat))
  | [], g, _ => rfl
  | c :: row, g, h => by
    rw [List.map_cons, List.foldl_cons, forR, lcommon_ok (g : Nat) c (h c List.mem_cons_self), Res.ok_bind, Res.ok_bind]
    exact law_gcd row (gF g c) fun x hx => h x (List.mem_cons_of_mem _ hx)
theorem lslim_ok {d : D} {row : Row} (hd : isL d (row.map .int)) (h : Bd 8900 row) (hl : row.length ≤ 1000000) : G__law_slim d = .ok (rw (slimR row)) := by
  unfold G__law_slim
  rw [hd.1, Res.ok_bind]
  refine bd_ok (law_gcd row 0 (h.mono (by decide))) ?_
  show ((rc2 cEq (.int (gcdR row : Nat)) (.int 0)).bind _) = _
  rw [rc_eq, Res.ok_bind]
  by_cases h0 : gcdR row = 0
  · rw [if_pos (decide_eq_true (by rw [h0]; rfl)), hd.2.1]
    unfold slimR
    rw [if_pos h0]
    rfl
  · rw [if_neg (by rw [decide_eq_true_eq]; omega), Res.ok_bind]
    obtain ⟨c, rest, e1, hc, hm⟩ := nz_row h0
    have hf : fstNZ row = c := by unfold fstNZ; rw [e1]; rfl
    obtain ⟨q1, q2⟩ := sgn_lt h (by decide) h0
    rcases filter_nz row with e | e
    · rw [e, Res.ok_bind, e1, List.map_cons, r_ixL0, Res.ok_bind, rc_gt, Res.ok_bind]
      have es : (if decide (0 < c) = true then .ok (.int (gcdR row : Nat)) else (r1 fNeg (.int (gcdR row : Nat))).bind fun d => .ok d : Res D) = .ok (.int (sgnG row)) := by
        unfold sgnG
        rw [hf]
        by_cases hn : c < 0
        · rw [if_neg (by rw [decide_eq_true_eq]; omega), if_pos hn]; rfl
        · rw [if_pos (decide_eq_true (by omega)), if_neg hn]
      have es : (if decide (0 < c) = true then .ok (.int (row.foldl gF 0 : Nat)) else (r1 fNeg (.int (row.foldl gF 0 : Nat))).bind fun d => .ok d : Res D) = .ok (.int (sgnG row)) := es
      rw [es, Res.ok_bind, Res.ok_bind, divs_ok q1 q2 hl, Res.ok_bind]
      unfold slimR
      rw [if_neg h0]
      rfl
    · omega
/-! ### leads -/
theorem lead_loop : ∀ (row : Row) (k : Nat), (forRF (σ := Unit) (ρ := D) (fun _ x => un2 x fun x10 x11 => (rc2 cNe x11 (D.int 0)).bind fun t => if t = true then .ok (.rt x10) else .ok (.nx ())) () ((row.zipIdx k).map fun p => D.tup [.int (p.2 : Nat), .int p.1]) = .ok (.nx ()) ∧ leadR row = row.length) ∨
    forRF (σ := Unit) (ρ := D) (fun _ x => un2 x fun x10 x11 => (rc2 cNe x11 (D.int 0)).bind fun t => if t = true then .ok (.rt x10) else .ok (.nx ())) () ((row.zipIdx k).map fun p => D.tup [.int (p.2 : Nat), .int p.1]) = .ok (.rt (.int (k + leadR row : Nat)))
  | [], k => .inl ⟨rfl, rfl⟩
  | c :: row, k => by
    rw [List.zipIdx_cons, List.map_cons, forRF, un2_tup, rc_ne, Res.ok_bind]
    by_cases hc : c = 0
    · rw [if_neg (by rw [decide_eq_true_eq]; exact fun z => z hc), Res.ok_bind]
      have hl : leadR (c :: row) = leadR row + 1 := by rw [leadR, if_pos hc]
      rcases lead_loop row (k + 1) with ⟨q, e⟩ | q
      · exact .inl ⟨q, by rw [hl, e, List.length_cons]⟩
      · right
        rw [hl, show k + (leadR row + 1) = k + 1 + leadR row by omega]
        exact q
    · right
      rw [if_pos (decide_eq_true hc), Res.ok_bind]
      have hl : leadR (c :: row) = 0 := by rw [leadR, if_neg hc]
      rw [hl]
      rfl
theorem lead_of_ok {d : D} {row : Row} (hd : isL d (row.map .int)) : G_lead_of d = .ok (.int (leadR row : Nat)) := by
  unfold G_lead_of
  rw [hd.2.2.2.2, Res.ok_bind, enum_map]
  rcases lead_loop row 0 with ⟨q, e⟩ | q
  · refine bd_ok q ?_
    show ((rN fLen [d]).bind fun d => .ok d) = _
    rw [hd.2.2.2.1, e, List.length_map]
    rfl
  · refine bd_ok q ?_
    rw [Nat.zero_add]
    rfl
theorem at0_ix {row : Row} {k : Nat} (h : k < row.length) : r2 fIx (rw row) (.int (k : Nat)) = .ok (.int (at0 row k)) := r_ixT (at0_get h)
theorem llead_ok {row : Row} (hl : row.length ≤ 1000) : G__law_lead (rw row) = .ok (.int (leadR row : Nat)) := by
  unfold G__law_lead
  have e0 : rN fLen [rw row] = .ok (.int (row.length : Nat)) := by
    show Res.ok (D.int ((row.map D.int).length : Nat)) = _
    rw [List.length_map]
  rw [e0, Res.ok_bind, rg1_ok (by omega), Res.ok_bind]
  have e1 : compR (fun x7 => (r2 fIx (rw row) x7).bind fun d11 => (rc2 cNe d11 (D.int 0)).bind fun t12 => if t12 = true then .ok (some x7) else .ok none) ((List.range row.length).map fun (k : Nat) => D.int (k : Nat)) = .ok ((places row).map fun (k : Nat) => D.int (k : Nat)) := by
    refine compR_eq (p := fun k => nz (at0 row k)) (fun k hk => ?_) (by rw [List.length_range]; omega)
    rw [at0_ix (List.mem_range.mp hk), Res.ok_bind, rc_ne, Res.ok_bind, nz_dec]
    cases decide (at0 row k ≠ 0) <;> rfl
  rw [e1, Res.ok_bind, r_lenL, Res.ok_bind, rc_gt, Res.ok_bind]
  have hp := places_lead row
  cases e : places row with
  | nil =>
    rw [e] at hp
    have hp : row.length = leadR row := hp
    rw [← hp]
    rfl
  | cons k rest =>
    rw [e] at hp
    have hp : k = leadR row := hp
    rw [if_pos (decide_eq_true (by rw [List.length_map, List.length_cons]; omega)), List.map_cons, r_ixL0, ← hp]
    rfl
/-! ### cleared, what is left -/
theorem lcs_ok {row lead : Row} {a b : Int} {p q : Nat} (ha : a.natAbs < 2 ^ p) (hb : b.natAbs < 2 ^ q) (h1 : Bd q row) (h2 : Bd p lead) (hpq : p + q ≤ 900000) (hl : row.length ≤ 1000000) :
    mapR (fun x19 => un2 x19 fun x22 x23 => (r2 fMul (.int a) x22).bind fun d26 => (r2 fMul (.int b) x23).bind fun d27 => (r2 fSub d26 d27).bind fun d28 => .ok d28) ((row.zip lead).map fun z => D.tup [.int z.1, .int z.2]) = .ok ((lcR a b row lead).map .int) := by
  have e := mapR_eq (mk := fun z : Int × Int => D.tup [.int z.1, .int z.2]) (g := fun z : Int × Int => D.int (a * z.1 - b * z.2)) (L := row.zip lead) (f := fun x19 => un2 x19 fun x22 x23 => (r2 fMul (.int a) x22).bind fun d26 => (r2 fMul (.int b) x23).bind fun d27 => (r2 fSub d26 d27).bind fun d28 => .ok d28) (fun z hz => by
    have m1 := h1 _ (List.of_mem_zip hz).1
    have m2 := h2 _ (List.of_mem_zip hz).2
    rw [un2_tup, r_mul (mulOk_lr ha m1 (by omega)), Res.ok_bind, r_mul (mulOk_lr hb m2 (by omega)), Res.ok_bind, r_subi, Res.ok_bind]) (by rw [List.length_zip]; omega)
  rw [e]
  exact congrArg Res.ok (zip_lc a b row lead)
theorem cleared_ok {row lead : Row} {k p q : Nat} (h1 : Bd q row) (h2 : Bd p lead) (hpq : p + q ≤ 8800) (hl : row.length = lead.length) (hk : k < row.length) (hn : row.length ≤ 1000000) : G_cleared (rw row) (rw lead) (.int (k : Nat)) = .ok (rw (clearR row lead k)) := by
  unfold G_cleared
  rw [at0_ix hk, Res.ok_bind, rc_eq, Res.ok_bind]
  unfold clearR
  by_cases h0 : at0 row k = 0
  · rw [if_pos (decide_eq_true h0), if_pos h0]
  · rw [if_neg (by rw [decide_eq_true_eq]; exact h0), if_neg h0, at0_ix (by omega), Res.ok_bind, Res.ok_bind, r_tup2, Res.ok_bind, un2_tup]
    have ez : rLN zipD [rw row, rw lead] = .ok ((row.zip lead).map fun z => D.tup [.int z.1, .int z.2]) := congrArg Res.ok (zip_maps D.int D.int row lead)
    have hb1 := at0_bd h1 k
    have hb2 := at0_bd h2 k
    rw [ez, Res.ok_bind, lcs_ok hb2 hb1 h1 h2 (by omega) hn, Res.ok_bind, slim_ok (isL_lst _) ((lcR_bd hb2 hb1 h1 h2).mono (by omega)) (by unfold lcR; rw [List.length_zipWith]; omega)]
    rfl
theorem rest_loop {n p : Nat} (hn : n ≤ 1000000) : ∀ (sp : List Row) (own : Row) (q : Nat), (∀ l ∈ sp, l.length = n ∧ leadR l < n ∧ Bd p l) → own.length = n → Bd q own → (sp.length + 1) * (p + 1) + q ≤ 8800 →
    forR (fun s17 x18 => (G_lead_of x18).bind fun d22 => (G_cleared s17 x18 d22).bind fun d24 => .ok d24) (rw own) (sp.map rw) = .ok (rw (restR own sp))
  | [], own, q, _, _, _, _ => rfl
  | l :: sp, own, q, h, ho, hq, hb => by
    obtain ⟨h1, h2, h3⟩ := h l List.mem_cons_self
    have hb : (sp.length + 1 + 1) * (p + 1) + q ≤ 8800 := hb
    rw [Nat.succ_mul] at hb
    have hp : p + 1 ≤ (sp.length + 1) * (p + 1) := Nat.le_mul_of_pos_left _ (Nat.succ_pos _)
    rw [List.map_cons, forR, lead_of_ok (isL_rw l), Res.ok_bind, cleared_ok hq h3 (by omega) (by omega) (by omega) (by omega), Res.ok_bind, Res.ok_bind]
    exact rest_loop hn sp (clearR own l (leadR l)) (p + q + 1) (fun x hx => h x (List.mem_cons_of_mem _ hx)) (by rw [clear_len _ (by omega)]; exact ho) (clear_bd _ hq h3) (by omega)
theorem rest_bd {n p : Nat} : ∀ (sp : List Row) (own : Row) (q : Nat), (∀ l ∈ sp, Bd p l) → Bd q own → Bd (sp.length * (p + 1) + q) (restR own sp)
  | [], own, q, _, hq => by rw [List.length_nil, Nat.zero_mul, Nat.zero_add]; exact hq
  | l :: sp, own, q, h, hq => by
    have e : restR own (l :: sp) = restR (clearR own l (leadR l)) sp := rfl
    rw [e]
    refine (rest_bd (n := n) sp _ (p + q + 1) (fun x hx => h x (List.mem_cons_of_mem _ hx)) (clear_bd _ hq (h l List.mem_cons_self))).mono ?_
    rw [List.length_cons, Nat.succ_mul]
    omega
theorem rest_ok {d1 d2 : D} {own : Row} {sp : List Row} {p q n : Nat} (hn : n ≤ 1000000) (hd1 : isL d1 (own.map .int)) (hd2 : isL d2 (sp.map rw)) (h : ∀ l ∈ sp, l.length = n ∧ leadR l < n ∧ Bd p l) (ho : own.length = n) (hq : Bd q own) (hb : (sp.length + 1) * (p + 1) + q ≤ 8800) :
    G_rest_of d1 d2 = .ok (rw (restR own sp)) := by
  unfold G_rest_of
  rw [hd1.2.1, Res.ok_bind, hd2.1, Res.ok_bind]
  exact bd_ok (rest_loop hn sp own q h ho hq hb) rfl
end SP

/-! SP: what the mirrors of spaces give: rows, least rows. -/
namespace SP
open PySem PySem.Spec PyProof.Rows L2 MM
/-! ### what is a row, what are rows -/
def plainD : D → Bool
  | .non => true
  | .bl _ => true
  | .int _ => true
  | .str _ => true
  | .tup _ => true
  | .lst _ => true
  | _ => false
def isIntD : D → Bool
  | .int _ => true
  | _ => false
theorem is_integer_ok (d : D) (h : plainD d = true) : G_is_integer d = .ok (.bl (isIntD d)) := by
  cases d <;> first | rfl | cases h
theorem is_whole_ok (d : D) (h : plainD d = true) : G__law_is_whole d = .ok (.bl (isIntD d)) := by
  cases d <;> first | rfl | cases h
def isRowD : D → Bool
  | .tup xs => xs.all isIntD
  | _ => false
theorem is_row_ok (d : D) (h : plainD d = true) (hx : ∀ xs, d = .tup xs → xs.length ≤ 1000000 ∧ ∀ x ∈ xs, plainD x = true) : G_is_row d = .ok (.bl (isRowD d)) := by
  cases d with
  | tup xs =>
    obtain ⟨h1, h2⟩ := hx xs rfl
    have e : mapR (fun x21 => (G_is_integer x21).bind fun d25 => .ok d25) xs = .ok (xs.map fun x => .bl (isIntD x)) := mapR_id (fun x hm => by rw [is_integer_ok x (h2 x hm)]; rfl) (Nat.le_trans h1 (by decide))
    show ((andG (.bl true) (D.bl false) ((rL itS (.tup xs)).bind fun l16 => (mapR (fun x21 => (G_is_integer x21).bind fun d25 => .ok d25) l16).bind fun l27 => (rN fAll [(D.lst l27)]).bind fun d29 => .ok d29)).bind fun d => .ok d) = _
    rw [andG_t, r_itT, Res.ok_bind, e, Res.ok_bind, r_all]
    rfl
  | _ => first | rfl | cases h
def lenB (x : D) (n : Nat) : Bool := match x with
  | .tup ys => ys.length == n
  | _ => false
/-- a tuple or a list of rows of n integers -/
def isRowsD (d : D) (n : Nat) : Bool := match itS d with
  | some xs => xs.all fun x => isRowD x && lenB x n
  | none => false
/-- what is_rows can be asked -/
def okI (x : D) : Bool := plainD x && match x with
    | .tup ys => decide (ys.length ≤ 1000000) && ys.all plainD
    | _ => true
def okD (d : D) : Bool := plainD d && match itS d with
  | some xs => decide (xs.length ≤ 1000000) && xs.all okI
  | none => true
theorem okI_row {x : D} (h : okI x = true) : G_is_row x = .ok (.bl (isRowD x)) := by
  unfold okI at h
  rw [Bool.and_eq_true] at h
  refine is_row_ok x h.1 fun xs e => ?_
  subst e
  have := h.2
  simp only [Bool.and_eq_true, decide_eq_true_eq, List.all_eq_true] at this
  exact this
theorem rowlen_ok {x : D} (n : Nat) (h : okI x = true) : ((G_is_row x).bind fun d47 => (andG d47 (D.bl false) ((rN fLen [x]).bind fun d51 => (r2 (cmp cEq) d51 (.int (n : Nat))).bind fun d52 => .ok d52)).bind fun d53 => .ok d53) = .ok (.bl (isRowD x && lenB x n)) := by
  rw [okI_row h, Res.ok_bind]
  cases hr : isRowD x with
  | false => rfl
  | true =>
    cases x with
    | tup ys =>
      rw [andG_t, r_lenT, Res.ok_bind, r_eqv, nat_eq, Bool.true_and]
      show Res.ok (D.bl (decide (ys.length = n))) = Res.ok (D.bl (ys.length == n))
      congr 2
    | _ => cases hr
theorem itS_cases {d : D} {xs : List D} (h : itS d = some xs) : d = .tup xs ∨ d = .lst xs := by
  unfold itS at h
  split at h
  · cases h; exact .inr rfl
  · cases h; exact .inl rfl
  · cases h
theorem isi_both {d : D} {xs : List D} (h : itS d = some xs) : rN fIsiA [d, .tup [.ty .list, .ty .tuple]] = .ok (.bl true) := by
  rcases itS_cases h with rfl | rfl <;> rfl
theorem is_rows_ok (d : D) (n : Nat) (h : okD d = true) : G_is_rows d (.int (n : Nat)) = .ok (.bl (isRowsD d n)) := by
  unfold okD at h
  rw [Bool.and_eq_true] at h
  obtain ⟨h0, h1⟩ := h
  unfold G_is_rows
  rw [r_tup2, Res.ok_bind]
  cases hd : itS d with
  | none =>
    have e : isRowsD d n = false := by unfold isRowsD; rw [hd]
    rw [e]
    cases d with
    | tup xs => cases hd
    | lst xs => cases hd
    | non => rfl
    | bl b => rfl
    | int i => rfl
    | str x => rfl
    | _ => cases h0
  | some xs =>
    rw [hd] at h1
    have h1 : (decide (xs.length ≤ 1000000) && xs.all okI) = true := h1
    rw [Bool.and_eq_true, decide_eq_true_eq, List.all_eq_true] at h1
    obtain ⟨hl, hx⟩ := h1
    have ei : rL itS d = .ok xs := by unfold rL; rw [hd]
    rw [isi_both hd, Res.ok_bind, andG_t, ei, Res.ok_bind, mapR_id (fun x hm => rowlen_ok n (hx x hm)) (Nat.le_trans hl (by decide)), Res.ok_bind, r_all]
    unfold isRowsD
    rw [hd]
    rfl
theorem okI_rw {r : Row} (h : r.length ≤ 1000000) : okI (rw r) = true := by
  show (true && (decide ((r.map D.int).length ≤ 1000000) && (r.map D.int).all plainD)) = true
  rw [Bool.true_and, Bool.and_eq_true]
  refine ⟨decide_eq_true (by rw [List.length_map]; exact h), List.all_eq_true.mpr fun y hy => ?_⟩
  obtain ⟨c, _, rfl⟩ := List.mem_map.mp hy
  rfl
theorem okD_rows {d : D} {L : List Row} (hd : itS d = some (L.map rw)) (hl : L.length ≤ 1000000) (hr : ∀ r ∈ L, r.length ≤ 1000000) : okD d = true := by
  have hp : plainD d = true := by rcases itS_cases hd with rfl | rfl <;> rfl
  unfold okD
  rw [hp, hd, Bool.true_and]
  show (decide ((L.map rw).length ≤ 1000000) && (L.map rw).all okI) = true
  rw [Bool.and_eq_true]
  refine ⟨decide_eq_true (by rw [List.length_map]; omega), List.all_eq_true.mpr fun x hx => ?_⟩
  obtain ⟨r, h, rfl⟩ := List.mem_map.mp hx
  exact okI_rw (hr r h)
theorem isRowD_rw (r : Row) : isRowD (rw r) = true := by
  show (r.map D.int).all isIntD = true
  refine List.all_eq_true.mpr fun y hy => ?_
  obtain ⟨c, _, rfl⟩ := List.mem_map.mp hy
  rfl
theorem isRowsD_rows {d : D} {L : List Row} {n : Nat} (hd : itS d = some (L.map rw)) (hr : ∀ r ∈ L, r.length = n) : isRowsD d n = true := by
  unfold isRowsD
  rw [hd]
  refine List.all_eq_true.mpr fun x hx => ?_
  obtain ⟨r, h, rfl⟩ := List.mem_map.mp hx
  show (isRowD (rw r) && ((r.map D.int).length == n)) = true
  rw [isRowD_rw, List.length_map, hr r h]
  simp
/-- rows are rows of numbers -/
theorem rowD_inv {x : D} (h : isRowD x = true) : ∃ r : Row, x = rw r := by
  cases x with
  | tup xs =>
    replace h : xs.all isIntD = true := h
    suffices ∃ r : Row, xs = r.map D.int by
      obtain ⟨r, e⟩ := this
      exact ⟨r, by rw [e]; rfl⟩
    induction xs with
    | nil => exact ⟨[], rfl⟩
    | cons y ys ih =>
      rw [List.all_cons, Bool.and_eq_true] at h
      obtain ⟨r, e⟩ := ih h.2
      cases y with
      | int c => exact ⟨c :: r, by rw [e]; rfl⟩
      | _ => exact absurd h.1 (by simp [isIntD])
  | _ => cases h
theorem rowsD_inv {d : D} {n : Nat} (h : isRowsD d n = true) : ∃ L : List Row, itS d = some (L.map rw) ∧ ∀ r ∈ L, r.length = n := by
  unfold isRowsD at h
  cases hd : itS d with
  | none => rw [hd] at h; cases h
  | some xs =>
    rw [hd] at h
    replace h : xs.all (fun x => isRowD x && lenB x n) = true := h
    suffices ∃ L : List Row, xs = L.map rw ∧ ∀ r ∈ L, r.length = n by
      obtain ⟨L, e, q⟩ := this
      exact ⟨L, by rw [e], q⟩
    clear hd
    induction xs with
    | nil => exact ⟨[], rfl, fun r hr => absurd hr (by simp)⟩
    | cons y ys ih =>
      rw [List.all_cons, Bool.and_eq_true, Bool.and_eq_true] at h
      obtain ⟨L, e, q⟩ := ih h.2
      obtain ⟨r, rfl⟩ := rowD_inv h.1.1
      refine ⟨r :: L, by rw [e]; rfl, fun z hz => ?_⟩
      rcases List.mem_cons.mp hz with rfl | hz
      · have h2 := h.1.2
        have h2 : ((z.map D.int).length == n) = true := h2
        rw [List.length_map] at h2
        simpa using h2
      · exact q z hz
/-! ### checks -/
theorem check_from_ok {mf : Nat} {i lo hi : Int} (h : lo ≤ i ∧ i ≤ hi) : G_check_from mf (.int i) (.int lo) (.int hi) = .ok .non := by
  unfold G_check_from
  rw [is_integer_ok (.int i) rfl, Res.ok_bind, r_trub, Res.ok_bind]
  have e : chR cLe cLe (.int lo) (.int i) (.ok (.int hi)) = .ok true := by
    show (match some (decide (lo ≤ i)) with | some true => (Res.ok (D.int hi)).bind fun c => rc2 cLe (.int i) c | some false => .ok false | none => .stuck) = _
    rw [decide_eq_true h.1]
    show rc2 cLe (.int i) (.int hi) = _
    rw [rc_le, decide_eq_true h.2]
  rw [e]
  rfl
theorem check_from_bad {mf : Nat} {i lo hi : Int} (h : ¬ (lo ≤ i ∧ i ≤ hi)) : G_check_from mf (.int i) (.int lo) (.int hi) = .ex ⟨mf, none⟩ := by
  unfold G_check_from
  rw [is_integer_ok (.int i) rfl, Res.ok_bind, r_trub, Res.ok_bind]
  have e : chR cLe cLe (.int lo) (.int i) (.ok (.int hi)) = .ok false := by
    show (match some (decide (lo ≤ i)) with | some true => (Res.ok (D.int hi)).bind fun c => rc2 cLe (.int i) c | some false => .ok false | none => .stuck) = _
    by_cases h1 : lo ≤ i
    · rw [decide_eq_true h1]
      show rc2 cLe (.int i) (.int hi) = _
      rw [rc_le, decide_eq_false fun h2 => h ⟨h1, h2⟩]
    · rw [decide_eq_false h1]
  rw [e]
  rfl
theorem check_from_no {mf : Nat} {d : D} {lo hi : D} (hp : plainD d = true) (h : isIntD d = false) : G_check_from mf d lo hi = .ex ⟨mf, none⟩ := by
  unfold G_check_from
  rw [is_integer_ok d hp, Res.ok_bind, r_trub, Res.ok_bind, h]
  rfl
theorem check_rows_ok {mf : Nat} {d : D} {n : Nat} (hn : n ≤ 256) (h : okD d = true) (hr : isRowsD d n = true) : G_check_rows mf d (.int (n : Nat)) = .ok .non := by
  unfold G_check_rows
  rw [check_from_ok ⟨by omega, by omega⟩, Res.ok_bind, is_rows_ok d n h, hr]
  rfl
theorem check_rows_bad {mf : Nat} {d : D} {n : Nat} (hn : n ≤ 256) (h : okD d = true) (hr : isRowsD d n = false) : G_check_rows mf d (.int (n : Nat)) = .ex ⟨mf, none⟩ := by
  unfold G_check_rows
  rw [check_from_ok ⟨by omega, by omega⟩, Res.ok_bind, is_rows_ok d n h, hr]
  rfl
theorem check_row_ok {mf : Nat} {r : Row} {n : Nat} (hn : n ≤ 1000) (h : r.length = n) : G_check_row mf (rw r) (.int (n : Nat)) = .ok .non := by
  unfold G_check_row
  have e : rN fLen [rw r] = .ok (.int (n : Nat)) := by
    show Res.ok (D.int ((r.map D.int).length : Nat)) = _
    rw [List.length_map, h]
  rw [okI_row (okI_rw (by omega)), isRowD_rw, Res.ok_bind, r_trub, Res.ok_bind]
  show ((Res.bind (rN fLen [rw r]) fun d6 => (rc2 cNe d6 (.int (n : Nat))).bind fun t7 => .ok t7).bind _) = _
  rw [e, Res.ok_bind, rc_ne, decide_eq_false (fun z => z rfl)]
  rfl
theorem check_row_bad {mf : Nat} {d : D} {n : Nat} (h : okI d = true) (hb : (isRowD d && lenB d n) = false) : G_check_row mf d (.int (n : Nat)) = .ex ⟨mf, none⟩ := by
  unfold G_check_row
  rw [okI_row h, Res.ok_bind, r_trub, Res.ok_bind]
  cases hr : isRowD d with
  | false => rfl
  | true =>
    rw [hr, Bool.true_and] at hb
    cases d with
    | tup ys =>
      have hb : (ys.length == n) = false := hb
      show ((Res.bind (rN fLen [.tup ys]) fun d6 => (rc2 cNe d6 (.int (n : Nat))).bind fun t7 => .ok t7).bind _) = _
      rw [r_lenT, Res.ok_bind, rc_ne, decide_eq_true (by have := beq_eq_false_iff_ne.mp hb; omega)]
      rfl
    | _ => cases hr
/-! ### space_of -/
theorem erase_map {α β : Type} (f : α → β) : ∀ (L : List α) (i : Nat), (L.map f).eraseIdx i = (L.eraseIdx i).map f
  | [], _ => rfl
  | x :: L, 0 => rfl
  | x :: L, i + 1 => by
    show f x :: (L.map f).eraseIdx i = f x :: (L.eraseIdx i).map f
    rw [erase_map f L i]
theorem rOwn_of {f : D → List D → Option (D × D)} {s d r : D} {ds : List D} (h : f s ds = some (d, r)) (hm : isMut d = true) : rOwn f s ds = .ok (r, d) := by
  unfold rOwn
  rw [h]
  exact if_pos hm
theorem popA_ok {xs : List D} {i : Nat} {y : D} (h : xs[i]? = some y) (hl : xs.length ≤ 1000) : rOwn fPopA (.lst xs) [.int (i : Nat)] = .ok (y, .lst (xs.eraseIdx i)) := by
  have hi : i < xs.length := (List.getElem?_eq_some_iff.mp h).1
  have e1 : seqIndex? ((i : Nat) : Int) xs.length = some i := by
    unfold seqIndex?
    have e0 : ¬ ((i : Nat) : Int) < 0 := by omega
    simp only [e0, if_false]
    simp
    omega
  have hb : -(2 ^ 63) ≤ ((i : Nat) : Int) ∧ ((i : Nat) : Int) < 2 ^ 63 := ⟨by omega, by omega⟩
  have : fPopA (.lst xs) [.int (i : Nat)] = some (.lst (xs.eraseIdx i), y) := by
    unfold fPopA
    simp only [hb, and_self, if_true, e1, Option.bind_some, h, Option.map_some]
  exact rOwn_of this rfl
theorem append_some {xs : List D} {y : D} (h : xs.length < sizeLine) : fAppend (.lst xs) [y] = some (.lst (xs ++ [y]), .non) := if_pos h
theorem append_ok {xs : List D} {y : D} (hl : xs.length ≤ 1000000) : rOwn fAppend (.lst xs) [y] = .ok (.non, .lst (xs ++ [y])) := by
  exact rOwn_of (append_some (Nat.lt_of_le_of_lt hl (Nat.lt_of_lt_of_le (show 1000000 < 16000000 by decide) size_big))) rfl
theorem clears_ok {n k b : Nat} {r : Row} {L : List Row} (hk : k < n) (hn : n ≤ 256) (hb : b + b ≤ 8800) (hr : r.length = n ∧ Bd b r) (hL : Rws n b L) : mapR (fun x433 => (G_cleared x433 (rw r) (.int (k : Nat))).bind fun d437 => .ok d437) (L.map rw) = .ok ((L.map fun x => clearR x r k).map rw) := by
  rw [List.map_map]
  exact mapR_eq (g := fun x => rw (clearR x r k)) (fun x hx => by
    obtain ⟨x1, x2⟩ := hL.2 x hx
    rw [cleared_ok x2 hr.2 hb (by omega) (by omega) (by omega)]
    rfl) (Nat.le_trans hL.1 (by decide))
theorem leads_ok {n b : Nat} {L : List Row} (hL : Rws n b L) : compR (fun x451 => (G_lead_of x451).bind fun d455 => (rc2 cLt d455 (.int (n : Nat))).bind fun t457 => if t457 = true then .ok (some x451) else .ok none) (L.map rw) = .ok ((L.filter fun x => decide (leadR x < n)).map rw) :=
  compR_eq (fun x hx => by
    rw [lead_of_ok (isL_rw x), Res.ok_bind, rc_lt, Res.ok_bind]
    have : decide (((leadR x : Nat) : Int) < (n : Nat)) = decide (leadR x < n) := decide_eq_decide.mpr (by omega)
    rw [this]
    cases decide (leadR x < n) <;> rfl) (Nat.le_trans hL.1 (by decide))
def rwl (L : List Row) : D := .lst (L.map rw)
def enS (s : List Row × List Row) : D × D := (rwl s.1, rwl s.2)
theorem sp_turn {n k b : Nat} {left found : List Row} (hk : k < n) (hn : n ≤ 256) (hb : b + b ≤ 8800) (h : GoodS n b (left, found)) :
    (lstR (rwl left) fun l333 =>
(compR (fun x344 => un2 x344 fun x347 x348 => (r2 fIx x348 (.int (k : Nat))).bind fun d351 => (rc2 cNe d351 (D.int 0)).bind fun t352 => if t352 = true then .ok (some x347) else .ok none) (enumL l333)).bind fun l353 =>
(rN fLen [(D.lst l353)]).bind fun d357 =>
(rc2 cGt d357 (D.int 0)).bind fun t358 =>
(if t358 = true then
lR (rwl left) (
(r2 fIx (D.lst l353) (D.int 0)).bind fun d421 =>
(rOwn fPopA (rwl left) [d421]).bind fun p422 =>
lstR p422.2 fun l425 =>
(mapR (fun x433 => (G_cleared x433 p422.1 (.int (k : Nat))).bind fun d437 => .ok d437) l425).bind fun l439 =>
lstR (D.lst l439) fun l442 =>
(compR (fun x451 => (G_lead_of x451).bind fun d455 => (rc2 cLt d455 (.int (n : Nat))).bind fun t457 => if t457 = true then .ok (some x451) else .ok none) l442).bind fun l458 =>
lstR (rwl found) fun l461 =>
(mapR (fun x469 => (G_cleared x469 p422.1 (.int (k : Nat))).bind fun d473 => .ok d473) l461).bind fun l475 =>
lR (D.lst l475) ((rOwn fAppend (D.lst l475) [p422.1]).bind fun p479 => .ok ((D.lst l458), p479.2))) else
.ok (rwl left, rwl found) : Res (D × D)).bind fun s481 =>
.ok (s481.1, s481.2)) = .ok (enS (stepS n (left, found) k)) := by
  have h1 : Rws n b left := h.1
  have h2 : Rws n b found := h.2.1
  have e1 : compR (fun x344 => un2 x344 fun x347 x348 => (r2 fIx x348 (.int (k : Nat))).bind fun d351 => (rc2 cNe d351 (D.int 0)).bind fun t352 => if t352 = true then .ok (some x347) else .ok none) (enumL (left.map rw)) = .ok ((pickK left k).map fun p => D.int (p.2 : Nat)) := by
    rw [enum_map]
    refine compR_eq (p := fun p : Row × Nat => nz (at0 p.1 k)) (fun p hp => ?_) (by rw [List.length_zipIdx]; exact Nat.le_trans h1.1 (by decide))
    have hm : p.1 ∈ left := by
      have := List.mem_zipIdx_iff_getElem?.mp hp
      exact List.mem_of_getElem? this
    rw [un2_tup, at0_ix (by rw [(h1.2 _ hm).1]; exact hk), Res.ok_bind, rc_ne, Res.ok_bind, nz_dec]
    cases decide (at0 p.1 k ≠ 0) <;> rfl
  show ((compR _ (enumL (left.map rw))).bind _) = _
  rw [e1, Res.ok_bind, r_lenL, Res.ok_bind, rc_gt, Res.ok_bind]
  unfold stepS
  cases e : pickK left k with
  | nil => rfl
  | cons p rest =>
    obtain ⟨r, i⟩ := p
    obtain ⟨m1, m2⟩ := pick_mem (show (r, i) ∈ pickK left k by rw [e]; exact List.mem_cons_self)
    have hr := h1.2 r (List.mem_of_getElem? m1)
    have hi : i < left.length := (List.getElem?_eq_some_iff.mp m1).1
    have hle : (left.eraseIdx i).length = left.length - 1 := List.length_eraseIdx_of_lt hi
    have hll : left.length ≤ 1000 := h1.1
    have he : Rws n b (left.eraseIdx i) := h1.sub (by omega) fun x hx => List.mem_of_mem_eraseIdx hx
    have hcl := he.clear k hr
    have hpop : rOwn fPopA (rwl left) [.int (i : Nat)] = .ok (rw r, rwl (left.eraseIdx i)) := by
      have e3 : (left.map rw)[i]? = some (rw r) := by rw [List.getElem?_map, m1]; rfl
      have := popA_ok e3 (by rw [List.length_map]; exact h1.1)
      rw [erase_map] at this
      exact this
    rw [if_pos (decide_eq_true (by rw [List.length_map, List.length_cons]; omega)), List.map_cons]
    show ((Res.bind (r2 fIx (D.lst (D.int (i : Nat) :: rest.map fun p => D.int (p.2 : Nat))) (D.int 0)) _).bind _) = _
    rw [r_ixL0, Res.ok_bind, hpop, Res.ok_bind]
    show ((Res.bind (mapR (fun x433 => (G_cleared x433 (rw r) (.int (k : Nat))).bind fun d437 => .ok d437) ((left.eraseIdx i).map rw)) _).bind _) = _
    rw [clears_ok hk hn hb hr he, Res.ok_bind]
    show ((Res.bind (compR (fun x451 => (G_lead_of x451).bind fun d455 => (rc2 cLt d455 (.int (n : Nat))).bind fun t457 => if t457 = true then .ok (some x451) else .ok none) (((left.eraseIdx i).map fun x => clearR x r k).map rw)) _).bind _) = _
    rw [leads_ok hcl, Res.ok_bind]
    show ((Res.bind (mapR (fun x433 => (G_cleared x433 (rw r) (.int (k : Nat))).bind fun d437 => .ok d437) (found.map rw)) _).bind _) = _
    rw [clears_ok hk hn hb hr h2, Res.ok_bind]
    show ((Res.bind (rOwn fAppend (D.lst ((found.map fun x => clearR x r k).map rw)) [rw r]) _).bind _) = _
    rw [append_ok (by rw [List.length_map, List.length_map]; exact Nat.le_trans h2.1 (by decide))]
    show Res.ok (rwl _, D.lst ((found.map fun x => clearR x r k).map rw ++ [rw r])) = Res.ok (rwl _, D.lst ((found.map (fun x => clearR x r k) ++ [r]).map rw))
    rw [List.map_append]
    rfl
theorem sp_loop {n : Nat} (hn : n ≤ 256) {f : D × D → D → Res (D × D)} (hf : ∀ (k b : Nat) (s : List Row × List Row), k < n → b + b ≤ 8800 → GoodS n b s → f (enS s) (.int (k : Nat)) = .ok (enS (stepS n s k))) :
    ∀ (ks : List Nat) (b : Nat) (s : List Row × List Row), (∀ k ∈ ks, k < n) → GoodS n b s → 2 ^ ks.length * (b + 1) ≤ 8802 → forR f (enS s) (ks.map fun k : Nat => D.int (k : Nat)) = .ok (enS (ks.foldl (stepS n) s))
  | [], b, s, _, _, _ => rfl
  | k :: ks, b, s, hk, g, hb => by
    rw [List.length_cons, Nat.pow_succ] at hb
    have hp : 1 ≤ 2 ^ ks.length := Nat.one_le_two_pow
    have hb3 : 2 ^ ks.length * (b + b + 1 + 1) ≤ 8802 := by
      have e : b + b + 1 + 1 = 2 * (b + 1) := by omega
      rw [e, ← Nat.mul_assoc]
      exact hb
    have hb4 : b + b + 1 + 1 ≤ 2 ^ ks.length * (b + b + 1 + 1) := Nat.le_mul_of_pos_left _ hp
    rw [List.map_cons, List.foldl_cons, forR, hf k b s (hk k List.mem_cons_self) (by omega) g, Res.ok_bind]
    exact sp_loop hn hf ks (b + b + 1) (stepS n s k) (fun x hx => hk x (List.mem_cons_of_mem _ hx)) (step_good k g) hb3
theorem space_ok {mf : Nat} {d : D} {L : List Row} {n b : Nat} (hn : n ≤ 256) (hd : itS d = some (L.map rw)) (h : Rws n b L) (hb : 2 ^ n * (b + 1) ≤ 8802) : G_space_of mf d (.int (n : Nat)) = .ok (.tup ((spaceR L n).map rw)) := by
  have hb1 : b + 1 ≤ 2 ^ n * (b + 1) := Nat.le_mul_of_pos_left _ Nat.one_le_two_pow
  have hr := check_rows_ok (mf := mf) hn (okD_rows hd (Nat.le_trans h.1 (by decide)) fun r hr => by have := (h.2 r hr).1; omega) (isRowsD_rows hd fun r hr => (h.2 r hr).1)
  have ei : rL itS d = .ok (L.map rw) := by unfold rL; rw [hd]
  have e1 : compR (fun x11 => (G_lead_of x11).bind fun d15 => (rc2 cLt d15 (.int (n : Nat))).bind fun t17 => if t17 = true then (G_slim x11).bind fun d18 => .ok (some d18) else .ok none) (L.map rw) = .ok ((startS L n).1.map rw) := by
    show _ = Res.ok (((L.filter fun x => decide (leadR x < n)).map slimR).map rw)
    rw [List.map_map]
    refine compR_eq (g := fun x => rw (slimR x)) (fun x hx => ?_) (Nat.le_trans h.1 (by decide))
    obtain ⟨x1, x2⟩ := h.2 x hx
    rw [lead_of_ok (isL_rw x), Res.ok_bind, rc_lt, Res.ok_bind, slim_ok (isL_rw x) (x2.mono (by omega)) (by omega), Res.ok_bind]
    have : decide (((leadR x : Nat) : Int) < (n : Nat)) = decide (leadR x < n) := decide_eq_decide.mpr (by omega)
    rw [this]
    cases decide (leadR x < n) <;> rfl
  have g : GoodS n b (startS L n) := by
    have hle : (L.filter fun x => decide (leadR x < n)).length ≤ L.length := List.length_filter_le _ _
    refine ⟨⟨?_, fun r hr => ?_⟩, ⟨Nat.zero_le _, fun r hr => absurd hr (by simp [startS])⟩, ?_⟩
    · show ((L.filter fun x => decide (leadR x < n)).map slimR).length ≤ 1000
      rw [List.length_map]
      exact Nat.le_trans hle h.1
    · obtain ⟨x, hx, rfl⟩ := List.mem_map.mp hr
      obtain ⟨x1, x2⟩ := h.2 x (List.mem_filter.mp hx).1
      exact ⟨by rw [slim_len]; exact x1, slim_bd x2⟩
    · show ((L.filter fun x => decide (leadR x < n)).map slimR).length + 0 ≤ 1000
      rw [List.length_map]
      exact Nat.le_trans hle h.1
  obtain ⟨b', eb, g'⟩ := fold_good n (List.range n) b (startS L n) g
  rw [List.length_range] at eb
  unfold G_space_of
  rw [hr, Res.ok_bind, ei, Res.ok_bind, e1, Res.ok_bind, r_lst0, Res.ok_bind, rg1_ok (by omega), Res.ok_bind]
  refine bd_ok (sp_loop hn (fun k b s hk hb hg => ?_) (List.range n) b (startS L n) (fun k hk => List.mem_range.mp hk) g (by rw [List.length_range]; exact hb)) ?_
  · obtain ⟨left, found⟩ := s
    exact sp_turn hk hn hb hg
  · show ((Res.bind (mapR (fun x493 => (G_slim x493).bind fun d497 => .ok d497) (((List.range n).foldl (stepS n) (startS L n)).2.map rw)) _)) = _
    have e2 : mapR (fun x493 => (G_slim x493).bind fun d497 => .ok d497) (((List.range n).foldl (stepS n) (startS L n)).2.map rw) = .ok ((spaceR L n).map rw) := by
      unfold spaceR
      rw [List.map_map]
      refine mapR_eq (g := fun x => rw (slimR x)) (fun x hx => ?_) (Nat.le_trans g'.2.1.1 (by decide))
      obtain ⟨x1, x2⟩ := g'.2.1.2 x hx
      rw [slim_ok (isL_rw x) (x2.mono (by omega)) (by omega)]
      rfl
    rw [e2]
    rfl
theorem space_bad {mf : Nat} {d : D} {n : Nat} (hn : n ≤ 256) (h : okD d = true) (hr : isRowsD d n = false) : G_space_of mf d (.int (n : Nat)) = .ex ⟨mf, none⟩ := by
  unfold G_space_of
  rw [check_rows_bad hn h hr]
  rfl
/-! ### is_space -/
theorem eq_rows (L L' : List Row) : r2 (cmp cEq) (.tup (L.map rw)) (.tup (L'.map rw)) = .ok (.bl (decide (L = L'))) := by
  unfold r2 cmp
  rw [cEq_rows]
  rfl
theorem eq_rw (x y : Row) : r2 (cmp cEq) (rw x) (rw y) = .ok (.bl (decide (x = y))) := by
  unfold r2 cmp
  rw [cEq_rw]
  rfl
theorem ne_rw (x y : Row) : rc2 cNe (rw x) (rw y) = .ok (decide (x ≠ y)) := by
  unfold rc2 cNe
  rw [cEq_rw]
  show Res.ok (!decide (x = y)) = _
  rw [decide_not]
theorem is_space_ok {mf : Nat} {L : List Row} {n b : Nat} (hn : n ≤ 256) (h : Rws n b L) (hb : 2 ^ n * (b + 1) ≤ 8802) : G_is_space mf (.tup (L.map rw)) (.int (n : Nat)) = .ok (.bl (decide (spaceR L n = L))) := by
  have hr := is_rows_ok (.tup (L.map rw)) n (okD_rows rfl (Nat.le_trans h.1 (by decide)) fun r hr => by have := (h.2 r hr).1; omega)
  rw [isRowsD_rows rfl fun r hr => (h.2 r hr).1] at hr
  unfold G_is_space
  have e0 : rN fIsi [.tup (L.map rw), .ty .tuple] = .ok (.bl true) := rfl
  rw [e0, Res.ok_bind, andG_t, hr, Res.ok_bind, andG_t, space_ok hn rfl h hb, Res.ok_bind, eq_rows]
  rfl
theorem is_space_no {mf : Nat} {d : D} {n : Nat} (hp : plainD d = true) (hd : ∀ xs, d ≠ .tup xs) : G_is_space mf d (.int (n : Nat)) = .ok (.bl false) := by
  cases d with
  | tup xs => exact absurd rfl (hd xs)
  | _ => first | rfl | cases hp
theorem is_space_bad {mf : Nat} {d : D} {n : Nat} (h : okD d = true) (hr : isRowsD d n = false) : G_is_space mf d (.int (n : Nat)) = .ok (.bl false) := by
  have hp : plainD d = true := by unfold okD at h; rw [Bool.and_eq_true] at h; exact h.1
  cases d with
  | tup xs =>
    unfold G_is_space
    have e0 : rN fIsi [.tup xs, .ty .tuple] = .ok (.bl true) := rfl
    rw [e0, Res.ok_bind, andG_t, is_rows_ok _ n h, hr]
    rfl
  | _ => exact is_space_no hp fun xs e => nomatch e
theorem check_space_ok {mf : Nat} {L : List Row} {n b : Nat} (hn : n ≤ 256) (h : Rws n b L) (hb : 2 ^ n * (b + 1) ≤ 8802) (he : spaceR L n = L) : G_check_space mf (.tup (L.map rw)) (.int (n : Nat)) = .ok .non := by
  unfold G_check_space
  rw [check_from_ok ⟨by omega, by omega⟩, Res.ok_bind, is_space_ok hn h hb, decide_eq_true he]
  rfl
theorem check_space_bad {mf : Nat} {d : D} {n : Nat} (hn : n ≤ 256) (h : G_is_space mf d (.int (n : Nat)) = .ok (.bl false)) : G_check_space mf d (.int (n : Nat)) = .ex ⟨mf, none⟩ := by
  unfold G_check_space
  rw [check_from_ok ⟨by omega, by omega⟩, Res.ok_bind, h]
  rfl
theorem rank_of_ok {mf : Nat} {d : D} {L : List Row} {n b : Nat} (hn : n ≤ 256) (hd : itS d = some (L.map rw)) (h : Rws n b L) (hb : 2 ^ n * (b + 1) ≤ 8802) : G_rank_of mf d (.int (n : Nat)) = .ok (.int ((spaceR L n).length : Nat)) := by
  unfold G_rank_of
  rw [space_ok hn hd h hb, Res.ok_bind, r_lenT, List.length_map]
  rfl
/-! ### the law's own -/
theorem rL_of {d : D} {xs : List D} (h : itS d = some xs) : rL itS d = .ok xs := by unfold rL; rw [h]
theorem range_lc (a b : Int) : ∀ (x l : Row), x.length = l.length → (List.range x.length).map (fun j => D.int (a * at0 x j - b * at0 l j)) = (lcR a b x l).map .int := by
  intro x l hl
  unfold lcR
  refine List.ext_getElem (by rw [List.length_map, List.length_range, List.length_map, List.length_zipWith]; omega) fun j h1 h2 => ?_
  rw [List.length_map, List.length_range] at h1
  rw [List.getElem_map, List.getElem_range, List.getElem_map, List.getElem_zipWith]
  unfold at0
  rw [List.getD_eq_getElem?_getD, List.getD_eq_getElem?_getD, List.getElem?_eq_getElem h1, List.getElem?_eq_getElem (by omega)]
  rfl
theorem le_row {n k b : Nat} {r x : Row} (hk : k < n) (hn : n ≤ 256) (hb : b + b ≤ 8800) (hr : r.length = n ∧ Bd b r) (hx : x.length = n ∧ Bd b x) : ((rLN rg1 [.int (n : Nat)]).bind fun l757 =>
(mapR (fun x767 => (r2 fIx (rw r) (.int (k : Nat))).bind fun d771 => (r2 fIx (rw x) x767).bind fun d772 => (r2 fMul d771 d772).bind fun d773 => (r2 fIx (rw x) (.int (k : Nat))).bind fun d774 => (r2 fIx (rw r) x767).bind fun d775 => (r2 fMul d774 d775).bind fun d776 => (r2 fSub d773 d776).bind fun d777 => .ok d777) l757).bind fun l778 =>
(G__law_slim (D.lst l778)).bind fun d780 => .ok d780) = .ok (rw (lclear n r k x)) := by
  rw [rg1_ok (by omega), Res.ok_bind]
  have hb1 := at0_bd hr.2 k
  have hb2 := at0_bd hx.2 k
  have e : mapR (fun x767 => (r2 fIx (rw r) (.int (k : Nat))).bind fun d771 => (r2 fIx (rw x) x767).bind fun d772 => (r2 fMul d771 d772).bind fun d773 => (r2 fIx (rw x) (.int (k : Nat))).bind fun d774 => (r2 fIx (rw r) x767).bind fun d775 => (r2 fMul d774 d775).bind fun d776 => (r2 fSub d773 d776).bind fun d777 => .ok d777) ((List.range n).map fun (j : Nat) => D.int (j : Nat)) = .ok ((lcR (at0 r k) (at0 x k) x r).map .int) := by
    rw [← range_lc (at0 r k) (at0 x k) x r (by omega), hx.1]
    refine mapR_eq (fun j hj => ?_) (by rw [List.length_range]; exact Nat.le_trans hn (by decide))
    have hj := List.mem_range.mp hj
    rw [at0_ix (by omega), Res.ok_bind, at0_ix (by omega), Res.ok_bind, r_mul (mulOk_lr hb1 (at0_bd hx.2 j) (by omega)), Res.ok_bind, at0_ix (by omega), Res.ok_bind, at0_ix (by omega), Res.ok_bind, r_mul (mulOk_lr hb2 (at0_bd hr.2 j) (by omega)), Res.ok_bind, r_subi, Res.ok_bind]
  rw [e, Res.ok_bind, lslim_ok (isL_lst _) ((lcR_bd hb1 hb2 hx.2 hr.2).mono (by omega)) (by unfold lcR; rw [List.length_zipWith]; omega)]
  rfl
theorem le_turn {n k b : Nat} {left found : List Row} (hk : k < n) (hn : n ≤ 256) (hb : b + b ≤ 8800) (h1 : Rws n b left) (h2 : Rws n b found) :
    ((rL itS (rwl left)).bind fun l577 =>
(compR (fun x582 => (r2 fIx x582 (.int (k : Nat))).bind fun d586 => (rc2 cNe d586 (D.int 0)).bind fun t587 => if t587 = true then .ok (some x582) else .ok none) l577).bind fun l588 =>
(rN fLen [(D.lst l588)]).bind fun d592 =>
(rc2 cGt d592 (D.int 0)).bind fun t593 =>
(if t593 = true then
(r2 fIx (D.lst l588) (D.int 0)).bind fun d723 =>
(rL itS (rwl left)).bind fun l725 =>
(mapR (fun x753 => (rLN rg1 [.int (n : Nat)]).bind fun l757 =>
(mapR (fun x767 => (r2 fIx d723 (.int (k : Nat))).bind fun d771 => (r2 fIx x753 x767).bind fun d772 => (r2 fMul d771 d772).bind fun d773 => (r2 fIx x753 (.int (k : Nat))).bind fun d774 => (r2 fIx d723 x767).bind fun d775 => (r2 fMul d774 d775).bind fun d776 => (r2 fSub d773 d776).bind fun d777 => .ok d777) l757).bind fun l778 =>
(G__law_slim (D.lst l778)).bind fun d780 => .ok d780) l725).bind fun l782 =>
(rL itS (rwl found)).bind fun l786 =>
(mapR (fun x753 => (rLN rg1 [.int (n : Nat)]).bind fun l757 =>
(mapR (fun x767 => (r2 fIx d723 (.int (k : Nat))).bind fun d771 => (r2 fIx x753 x767).bind fun d772 => (r2 fMul d771 d772).bind fun d773 => (r2 fIx x753 (.int (k : Nat))).bind fun d774 => (r2 fIx d723 x767).bind fun d775 => (r2 fMul d774 d775).bind fun d776 => (r2 fSub d773 d776).bind fun d777 => .ok d777) l757).bind fun l778 =>
(G__law_slim (D.lst l778)).bind fun d780 => .ok d780) l786).bind fun l843 =>
(G__law_slim d723).bind fun d845 =>
(rN fLst [d845]).bind fun d847 =>
(r2 fAdd (D.lst l843) d847).bind fun d849 =>
.ok ((D.lst l782), d849) else
.ok (rwl left, rwl found) : Res (D × D)).bind fun s852 => .ok (s852.1, s852.2)) = .ok (enS (leastS n (left, found) k)) := by
  have e1 : compR (fun x582 => (r2 fIx x582 (.int (k : Nat))).bind fun d586 => (rc2 cNe d586 (D.int 0)).bind fun t587 => if t587 = true then .ok (some x582) else .ok none) (left.map rw) = .ok ((left.filter fun x => nz (at0 x k)).map rw) :=
    compR_eq (fun x hx => by
      rw [at0_ix (by rw [(h1.2 x hx).1]; exact hk), Res.ok_bind, rc_ne, Res.ok_bind, nz_dec]
      cases decide (at0 x k ≠ 0) <;> rfl) (Nat.le_trans h1.1 (by decide))
  have er : ∀ {r : Row} (hr : r.length = n ∧ Bd b r) (L : List Row), Rws n b L → mapR (fun x753 => (rLN rg1 [.int (n : Nat)]).bind fun l757 =>
(mapR (fun x767 => (r2 fIx (rw r) (.int (k : Nat))).bind fun d771 => (r2 fIx x753 x767).bind fun d772 => (r2 fMul d771 d772).bind fun d773 => (r2 fIx x753 (.int (k : Nat))).bind fun d774 => (r2 fIx (rw r) x767).bind fun d775 => (r2 fMul d774 d775).bind fun d776 => (r2 fSub d773 d776).bind fun d777 => .ok d777) l757).bind fun l778 =>
(G__law_slim (D.lst l778)).bind fun d780 => .ok d780) (L.map rw) = .ok ((L.map (lclear n r k)).map rw) := fun {r} hr L hL => by
    rw [List.map_map]
    exact mapR_eq (g := fun x => rw (lclear n r k x)) (fun x hx => le_row hk hn hb hr (hL.2 x hx)) (Nat.le_trans hL.1 (by decide))
  show ((compR _ (left.map rw)).bind _) = _
  rw [e1, Res.ok_bind, r_lenL, Res.ok_bind, rc_gt, Res.ok_bind]
  unfold leastS
  cases e : left.filter fun x => nz (at0 x k) with
  | nil => rfl
  | cons r rest =>
    have hr := h1.2 r (List.mem_filter.mp (show r ∈ left.filter fun x => nz (at0 x k) by rw [e]; exact List.mem_cons_self)).1
    rw [if_pos (decide_eq_true (by rw [List.length_map, List.length_cons]; omega)), List.map_cons, r_ixL0, Res.ok_bind]
    show ((Res.bind (mapR _ (left.map rw)) _).bind _) = _
    rw [er hr left h1, Res.ok_bind]
    show ((Res.bind (mapR _ (found.map rw)) _).bind _) = _
    rw [er hr found h2, Res.ok_bind, lslim_ok (isL_rw r) (hr.2.mono (by omega)) (by omega), Res.ok_bind, r_lst1, Res.ok_bind, r_catL (by rw [List.length_map, List.length_map, List.length_singleton]; exact sz (by have := h2.1; omega))]
    show Res.ok (rwl _, D.lst ((found.map (lclear n r k)).map rw ++ [rw (slimR r)])) = Res.ok (rwl _, D.lst ((found.map (lclear n r k) ++ [slimR r]).map rw))
    rw [List.map_append]
    rfl
theorem le_loop {n : Nat} (hn : n ≤ 256) {f : D × D → D → Res (D × D)} (hf : ∀ (k b : Nat) (s : List Row × List Row), k < n → b + b ≤ 8800 → Rws n b s.1 → Rws n b s.2 → f (enS s) (.int (k : Nat)) = .ok (enS (leastS n s k))) :
    ∀ (m lo b : Nat) (s : List Row × List Row), lo + m = n → Rws n b s.1 ∧ Rws n b s.2 ∧ s.2.length ≤ lo → 2 ^ m * (b + 1) ≤ 8802 → forR f (enS s) ((List.range' lo m).map fun k : Nat => D.int (k : Nat)) = .ok (enS ((List.range' lo m).foldl (leastS n) s))
  | 0, lo, b, s, _, _, _ => rfl
  | m + 1, lo, b, s, hm, g, hb => by
    rw [Nat.pow_succ] at hb
    have hp : 1 ≤ 2 ^ m := Nat.one_le_two_pow
    have hb3 : 2 ^ m * (b + b + 1 + 1) ≤ 8802 := by
      have e : b + b + 1 + 1 = 2 * (b + 1) := by omega
      rw [e, ← Nat.mul_assoc]
      exact hb
    have hb4 : b + b + 1 + 1 ≤ 2 ^ m * (b + b + 1 + 1) := Nat.le_mul_of_pos_left _ hp
    rw [List.range'_succ, List.map_cons, List.foldl_cons, forR, hf lo b s (by omega) (by omega) g.1 g.2.1, Res.ok_bind]
    exact le_loop hn hf m (lo + 1) (b + b + 1) (leastS n s lo) (by omega) (leastS_good lo g (by omega)) hb3
theorem least_ok {d : D} {L : List Row} {n b : Nat} (hn : n ≤ 256) (hd : itS d = some (L.map rw)) (h : Rws n b L) (hb : 2 ^ n * (b + 1) ≤ 8802) : G__law_least d (.int (n : Nat)) = .ok (.tup ((leastR L n).map rw)) := by
  have e1 : mapR (fun x5 => (rN fTupOf [x5]).bind fun d9 => .ok d9) (L.map rw) = .ok (L.map rw) := mapR_eq (fun x _ => rfl) (Nat.le_trans h.1 (by decide))
  unfold G__law_least
  rw [rL_of hd, Res.ok_bind, e1, Res.ok_bind, r_lst0, Res.ok_bind]
  refine bd_ok (rg1_ok (by omega)) ?_
  rw [List.range_eq_range']
  refine bd_ok (le_loop hn (fun k b s hk hb h1 h2 => ?_) n 0 b (L, []) (by omega) ⟨h, ⟨Nat.zero_le _, fun r hr => absurd hr (by simp)⟩, Nat.le_refl _⟩ hb) ?_
  · obtain ⟨left, found⟩ := s
    exact le_turn hk hn hb h1 h2
  · have key : ∀ X : List Row × List Row, ((rN fTupOf [(enS X).2]).bind fun d => .ok d) = .ok (.tup (X.2.map rw)) := fun X => rfl
    refine (key _).trans ?_
    unfold leastR
    rw [← List.range_eq_range']
theorem lrank_ok {d : D} {L : List Row} {n b : Nat} (hn : n ≤ 256) (hd : itS d = some (L.map rw)) (h : Rws n b L) (hb : 2 ^ n * (b + 1) ≤ 8802) : G__law_rank d (.int (n : Nat)) = .ok (.int ((leastR L n).length : Nat)) := by
  unfold G__law_rank
  rw [least_ok hn hd h hb, Res.ok_bind, r_lenT, List.length_map]
  rfl
theorem within_ok {d : D} {x : Row} {L : List Row} {n b : Nat} (hn : n ≤ 256) (hd : itS d = some (L.map rw)) (h : Rws n b L) (hx : x.length = n ∧ Bd b x) (hl : L.length ≤ 999) (hb : 2 ^ n * (b + 1) ≤ 8802) : ∃ w, G__law_within (rw x) d (.int (n : Nat)) = .ok (.bl w) ∧ (w = true ↔ Sp n L x) := by
  have h2 : Rws n b (L ++ [x]) := ⟨by rw [List.length_append, List.length_singleton]; omega, fun r hr => by
    rcases List.mem_append.mp hr with hr | hr
    · exact h.2 r hr
    · rw [List.mem_singleton.mp hr]; exact hx⟩
  have e0 : rN fLstOf [d] = .ok (.lst (L.map rw)) := by rcases itS_cases hd with rfl | rfl <;> rfl
  have e1 : r2 fAdd (.lst (L.map rw)) (.lst [rw x]) = .ok (.lst ((L ++ [x]).map rw)) := by
    rw [r_catL (sz (by rw [List.length_map, List.length_singleton]; omega)), List.map_append]
    rfl
  refine ⟨decide ((leastR (L ++ [x]) n).length = (leastR L n).length), ?_, by rw [decide_eq_true_eq]; exact rank_within (fun r hr => (h.2 r hr).1) hx.1⟩
  unfold G__law_within
  rw [e0, Res.ok_bind, r_lst1, Res.ok_bind, e1, Res.ok_bind, lrank_ok hn rfl h2 hb, Res.ok_bind, lrank_ok hn hd h hb, Res.ok_bind, r_eqv, nat_eq]
  rfl
end SP

/-! SP: draws, the mirror of sameness, spaces by the law. -/
namespace SP
open PySem PySem.Spec PyProof.Rows L2 MM
/-! ### draws -/
theorem noEx_ok {γ : Type} {r : Res γ} {c : γ} (h : r = .ok c) : noEx r = .ok c := by rw [h]; rfl
theorem take_ok {d : D} (hd : Dst d) {m : Int} (h1 : 0 < m) (h2 : m < 1000000000) : ∃ v d', G__law_take d (.int m) = .ok (.int v, d') ∧ Dst d' ∧ 0 ≤ v ∧ v < m := by
  obtain ⟨s, t, rfl⟩ := hd
  have hm : m ≠ 0 := by omega
  have hl : m.natAbs.log2 < 9000 := by
    have : m.natAbs < 2 ^ 30 := by omega
    exact Nat.lt_trans ((Nat.log2_lt (by omega)).mpr this) (by decide)
  have a0 : ∀ x y : Int, (bR (.lst [.int x, .int y]) (Res.bind (.ok (D.int 0)) fun j => r2 fIx (.lst [.int x, .int y]) j)) = .ok (.int x) := fun _ _ => rfl
  have a1 : ∀ x y : Int, (bR (.lst [.int x, .int y]) (Res.bind (.ok (D.int 1)) fun j => r2 fIx (.lst [.int x, .int y]) j)) = .ok (.int y) := fun _ _ => rfl
  have s0 : ∀ x y v : Int, rSet (.lst [.int x, .int y]) (.int 0) (.int v) = .ok (.lst [.int v, .int y]) := fun _ _ _ => rfl
  have s1 : ∀ x y v : Int, rSet (.lst [.int x, .int y]) (.int 1) (.int v) = .ok (.lst [.int x, .int v]) := fun _ _ _ => rfl
  have lr : ∀ {γ : Type} (x y : Int) (r : Res γ), lR (.lst [.int x, .int y]) r = r := fun _ _ _ => rfl
  by_cases h : 0 < s
  · refine ⟨s.fmod m, .lst [.int (s.fdiv m), .int t], noEx_ok ?_, ⟨_, _, rfl⟩, Int.fmod_nonneg_of_pos _ h1, Int.fmod_lt_of_pos _ h1⟩
    rw [a0, Res.ok_bind, rc_gt, Res.ok_bind, if_pos (decide_eq_true h), Res.ok_bind, r_int1, Res.ok_bind, r_fmod hm, Res.ok_bind, Res.ok_bind, r_fdiv hm hl, Res.ok_bind, lr, Res.ok_bind, s0, Res.ok_bind]
  · refine ⟨((((t * 48271 + 11).fmod 2147483647).fdiv 7).fmod m), .lst [.int s, .int ((t * 48271 + 11).fmod 2147483647)], noEx_ok ?_, ⟨_, _, rfl⟩, Int.fmod_nonneg_of_pos _ h1, Int.fmod_lt_of_pos _ h1⟩
    rw [a0, Res.ok_bind, rc_gt, Res.ok_bind, if_neg (by rw [decide_eq_true_eq]; exact h), a1, Res.ok_bind, r_mul (mulOk_small (.inr (by decide))), Res.ok_bind, r_add, Res.ok_bind, r_int1, Res.ok_bind, r_fmod (by decide), Res.ok_bind, lr, Res.ok_bind, s1, Res.ok_bind, a1, Res.ok_bind, r_fdiv (by decide) (by decide), Res.ok_bind, r_int1, Res.ok_bind, r_fmod hm, Res.ok_bind]
theorem state_loop : ∀ (ns : List Int) (x y : Int), ∃ x' y' : Int, forR (fun s32 x33 =>
(r2 fMul s32.1 (D.int 1000003)).bind fun d37 => (rN fAbs [x33]).bind fun d38 => (r2 fAdd d37 d38).bind fun d39 => (r2 fMul s32.2 (D.int 48271)).bind fun d42 => (r2 fAdd d42 x33).bind fun d43 => (rN fInt1 [d43]).bind fun d45 => (r2 fMod d45 (D.int 2147483647)).bind fun d46 => .ok (d39, d46)) ((D.int x), (D.int y)) (ns.map .int) = .ok (.int x', .int y')
  | [], x, y => ⟨x, y, rfl⟩
  | n :: ns, x, y => by
    obtain ⟨x', y', h⟩ := state_loop ns (x * 1000003 + (n.natAbs : Nat)) ((y * 48271 + n).fmod 2147483647)
    refine ⟨x', y', ?_⟩
    rw [List.map_cons, forR]
    show ((Res.bind (r2 fMul (D.int x) (D.int 1000003)) _).bind _) = _
    rw [r_mul (mulOk_small (.inr (by decide))), Res.ok_bind, r_absi, Res.ok_bind, r_add, Res.ok_bind]
    show ((Res.bind (r2 fMul (D.int y) (D.int 48271)) _).bind _) = _
    rw [r_mul (mulOk_small (.inr (by decide))), Res.ok_bind, r_add, Res.ok_bind, r_int1, Res.ok_bind, r_fmod (by decide), Res.ok_bind, Res.ok_bind]
    exact h
theorem slice_map (ns : List Int) (lo hi : Option Int) : ∃ ms : List Int, fSl (.scr (ns.map .int)) lo hi = some (.fr (.lst (ms.map .int))) := by
  refine ⟨(ns.drop (HT.sIx (ns.map D.int).length 0 lo)).take (HT.sIx (ns.map D.int).length (ns.map D.int).length hi - HT.sIx (ns.map D.int).length 0 lo), ?_⟩
  rw [List.map_take, List.map_drop]
  rfl
theorem state_ok (ns : List Int) : ∃ d, G__law_state (.scr (ns.map .int)) = .ok d ∧ Dst d := by
  obtain ⟨ms, e⟩ := slice_map ns none (some 63)
  obtain ⟨x, y, h⟩ := state_loop ms 0 1
  refine ⟨.lst [.int x, .int (if y = 1973665155 then 7 else y)], ?_, _, _, rfl⟩
  unfold G__law_state
  rw [intR_i]
  have e2 : slR (.scr (ns.map .int)) none (some 63) = .ok (.lst (ms.map .int)) := by unfold slR; rw [e]; rfl
  rw [e2, Res.ok_bind, r_itL, Res.ok_bind, h, Res.ok_bind]
  show ((Res.bind (rc2 cNe (D.int y) (D.int 1973665155)) _)) = _
  rw [rc_ne, Res.ok_bind]
  by_cases hy : y = 1973665155
  · rw [if_neg (by rw [decide_eq_true_eq]; exact fun z => z hy), if_pos hy, Res.ok_bind]
    show ((rN fLst [D.int x, D.int 7]).bind _) = _
    rw [r_lst2]
    rfl
  · rw [if_pos (decide_eq_true hy), if_neg hy, Res.ok_bind]
    show ((rN fLst [D.int x, D.int y]).bind _) = _
    rw [r_lst2]
    rfl
theorem number_ok {d : D} (hd : Dst d) : ∃ v d', G__law_number d = .ok (.int v, d') ∧ Dst d' ∧ -3 ≤ v ∧ v ≤ 3 := by
  obtain ⟨v, d', e, h, h1, h2⟩ := take_ok hd (m := 7) (by decide) (by decide)
  refine ⟨v - 3, d', noEx_ok ?_, h, by omega, by omega⟩
  rw [e, Res.ok_bind]
  rfl
theorem ints_of : ∀ (ds : List D) (P : Int → Prop), (∀ d ∈ ds, ∃ v : Int, d = .int v ∧ P v) → ∃ r : Row, ds = r.map .int ∧ ∀ c ∈ r, P c
  | [], P, _ => ⟨[], rfl, fun c hc => absurd hc (by simp)⟩
  | d :: ds, P, h => by
    obtain ⟨v, rfl, hv⟩ := h d List.mem_cons_self
    obtain ⟨r, e, hr⟩ := ints_of ds P fun x hx => h x (List.mem_cons_of_mem _ hx)
    refine ⟨v :: r, by rw [e]; rfl, fun c hc => ?_⟩
    rcases List.mem_cons.mp hc with rfl | hc
    · exact hv
    · exact hr c hc
def Sml (m : Nat) (r : Row) : Prop := ∀ c ∈ r, c.natAbs ≤ m
theorem Sml.bd {m b : Nat} {r : Row} (h : Sml m r) (hb : m < 2 ^ b) : Bd b r := fun c hc => Nat.lt_of_le_of_lt (h c hc) hb
theorem row_ok {d : D} {n : Nat} (hd : Dst d) (hn : n ≤ 1000) : ∃ (r : Row) (d' : D), G__law_row d (.int (n : Nat)) = .ok (rw r, d') ∧ Dst d' ∧ r.length = n ∧ Sml 3 r := by
  obtain ⟨ds, d', e, h1, h2, h3⟩ := mapS_st (f := fun s10 x11 => (G__law_number s10).bind fun p15 => .ok (p15.1, p15.2)) (mk := fun (k : Nat) => D.int (k : Nat)) (fun d => ∃ v : Int, d = .int v ∧ v.natAbs ≤ 3) (L := List.range n) hd (fun x _ s hs => by
    obtain ⟨v, d', e, h, h1, h2⟩ := number_ok hs
    exact ⟨.int v, d', by rw [e]; rfl, h, v, rfl, by omega⟩) (by rw [List.length_range]; omega)
  obtain ⟨r, e2, hr⟩ := ints_of ds _ h3
  refine ⟨r, d', noEx_ok ?_, h1, ?_, hr⟩
  · rw [rg1_ok (by omega), Res.ok_bind, e, Res.ok_bind, r_tupL, e2]
    rfl
  · have := congrArg List.length e2
    rw [List.length_map, h2, List.length_range] at this
    exact this.symm
theorem rows_of : ∀ (ds : List D) (P : Row → Prop), (∀ d ∈ ds, ∃ v : Row, d = rw v ∧ P v) → ∃ L : List Row, ds = L.map rw ∧ ∀ c ∈ L, P c
  | [], P, _ => ⟨[], rfl, fun c hc => absurd hc (by simp)⟩
  | d :: ds, P, h => by
    obtain ⟨v, rfl, hv⟩ := h d List.mem_cons_self
    obtain ⟨r, e, hr⟩ := rows_of ds P fun x hx => h x (List.mem_cons_of_mem _ hx)
    refine ⟨v :: r, by rw [e]; rfl, fun c hc => ?_⟩
    rcases List.mem_cons.mp hc with rfl | hc
    · exact hv
    · exact hr c hc
theorem at0_sml {m : Nat} {r : Row} (h : Sml m r) (k : Nat) : (at0 r k).natAbs ≤ m := by
  unfold at0
  rw [List.getD_eq_getElem?_getD]
  cases e : r[k]? with
  | none => exact Nat.zero_le _
  | some c => exact h c (List.mem_of_getElem? e)
theorem zero_rw {n : Nat} (hn : n ≤ 1000) : r2 fMul (.tup [.int 0]) (.int (n : Nat)) = .ok (rw (List.replicate n 0)) := by
  rw [r_rep hn]
  unfold rw
  rw [List.map_replicate]
theorem drawn_ok {d : D} {n : Nat} (hd : Dst d) (hn : n ≤ 1000) : ∃ (L : List Row) (d' : D), G__law_drawn_rows d (.int (n : Nat)) = .ok (rwl L, d') ∧ Dst d' ∧ L.length ≤ 5 ∧ ∀ r ∈ L, r.length = n ∧ Sml 9 r := by
  obtain ⟨v, d1, e1, h1, v1, v2⟩ := take_ok hd (m := 4) (by decide) (by decide)
  obtain ⟨k, rfl⟩ : ∃ k : Nat, v = (k : Nat) := ⟨v.toNat, by omega⟩
  obtain ⟨ds, d2, e2, h2, l2, q2⟩ := mapS_st (f := fun s13 x14 => (G__law_row s13 (.int (n : Nat))).bind fun p18 => .ok (p18.1, p18.2)) (mk := fun (k : Nat) => D.int (k : Nat)) (fun d => ∃ r : Row, d = rw r ∧ r.length = n ∧ Sml 3 r) (L := List.range k) h1 (fun x _ s hs => by
    obtain ⟨r, d', e, h, q1, q2⟩ := row_ok hs hn
    exact ⟨rw r, d', by rw [e]; rfl, h, r, rfl, q1, q2⟩) (by rw [List.length_range]; omega)
  obtain ⟨L0, e3, hL⟩ := rows_of ds _ q2
  have hl0 : L0.length = k := by
    have := congrArg List.length e3
    rw [List.length_map, l2, List.length_range] at this
    exact this.symm
  have B : ∃ (t : Bool) (d3 : D), (andB (decide ((1 : Int) < (k : Nat))) (false, d2) ((G__law_take d2 (D.int 2)).bind fun p31 => (rc2 cEq p31.1 (D.int 0)).bind fun t34 => .ok (t34, p31.2))) = .ok (t, d3) ∧ Dst d3 ∧ (t = true → 1 < k) := by
    by_cases hk : (1 : Int) < (k : Nat)
    · obtain ⟨v, d3, e, h, _, _⟩ := take_ok h2 (m := 2) (by decide) (by decide)
      refine ⟨decide (v = 0), d3, ?_, h, fun _ => by omega⟩
      rw [decide_eq_true hk, andB_t, e, Res.ok_bind, rc_eq]
      rfl
    · exact ⟨false, d2, by rw [decide_eq_false hk]; rfl, h2, fun z => by cases z⟩
  obtain ⟨t, d3, e4, h3, ht⟩ := B
  have C : ∃ L1 : List Row, (if t = true then
lR (D.lst (L0.map rw)) (
(rLN rg1 [.int (n : Nat)]).bind fun l79 =>
(mapR (fun x96 =>
(Res.bind (.ok (D.int 0)) fun j => r2 fIx (D.lst (L0.map rw)) j).bind fun d100 =>
(r2 fIx d100 x96).bind fun d105 =>
(r2 fMul (D.int 2) d105).bind fun d106 =>
(Res.bind (.ok (D.int 1)) fun j => r2 fIx (D.lst (L0.map rw)) j).bind fun d107 =>
(r2 fIx d107 x96).bind fun d112 =>
(r2 fSub d106 d112).bind fun d113 =>
.ok d113) l79).bind fun l114 =>
(rN fTupOf [(D.lst l114)]).bind fun d116 =>
(rOwn fAppend (D.lst (L0.map rw)) [d116]).bind fun p117 =>
.ok p117.2) else
.ok (D.lst (L0.map rw)) : Res D) = .ok (rwl L1) ∧ L1.length ≤ 4 ∧ ∀ r ∈ L1, r.length = n ∧ Sml 9 r := by
    have old : ∀ r ∈ L0, r.length = n ∧ Sml 9 r := fun r hr => ⟨(hL r hr).1, fun c hc => Nat.le_trans ((hL r hr).2 c hc) (by decide)⟩
    cases t with
    | false => exact ⟨L0, rfl, by omega, old⟩
    | true =>
      have hk := ht rfl
      match L0, hl0, hL, old with
      | a :: b :: rest, hl0, hL, old =>
        have ha := hL a List.mem_cons_self
        have hb := hL b (List.mem_cons_of_mem _ List.mem_cons_self)
        have em : mapR (fun x96 =>
(Res.bind (.ok (D.int 0)) fun j => r2 fIx (D.lst ((a :: b :: rest).map rw)) j).bind fun d100 =>
(r2 fIx d100 x96).bind fun d105 =>
(r2 fMul (D.int 2) d105).bind fun d106 =>
(Res.bind (.ok (D.int 1)) fun j => r2 fIx (D.lst ((a :: b :: rest).map rw)) j).bind fun d107 =>
(r2 fIx d107 x96).bind fun d112 =>
(r2 fSub d106 d112).bind fun d113 =>
.ok d113) ((List.range n).map fun (j : Nat) => D.int (j : Nat)) = .ok ((List.range n).map fun (j : Nat) => D.int (2 * at0 a j - at0 b j)) := by
          refine mapR_eq (fun j hj => ?_) (by rw [List.length_range]; omega)
          have hj := List.mem_range.mp hj
          have x0 : (Res.bind (.ok (D.int 0)) fun j => r2 fIx (D.lst ((a :: b :: rest).map rw)) j) = .ok (rw a) := r_ixL0 _ _
          have x1 : (Res.bind (.ok (D.int 1)) fun j => r2 fIx (D.lst ((a :: b :: rest).map rw)) j) = .ok (rw b) := r_ixL (k := 1) rfl
          rw [x0, Res.ok_bind, at0_ix (by omega), Res.ok_bind, r_mul (mulOk_small (.inl (by decide))), Res.ok_bind, x1, Res.ok_bind, at0_ix (by omega), Res.ok_bind, r_subi, Res.ok_bind]
        refine ⟨(a :: b :: rest) ++ [(List.range n).map fun j => 2 * at0 a j - at0 b j], ?_, by rw [List.length_append, List.length_singleton]; omega, fun r hr => ?_⟩
        · rw [if_pos rfl, lR_l]
          refine bd_ok (rg1_ok (by omega)) ?_
          refine bd_ok em ?_
          refine bd_ok (r_tupL _) ?_
          refine bd_ok (append_ok (by rw [List.length_map]; omega)) ?_
          show Res.ok (D.lst _) = Res.ok (D.lst _)
          rw [List.map_append, List.map_cons (l := []), List.map_nil]
          congr 3
          show [D.tup _] = [D.tup _]
          rw [List.map_map]
          rfl
        · rcases List.mem_append.mp hr with hr | hr
          · exact old r hr
          · rw [List.mem_singleton.mp hr]
            refine ⟨by rw [List.length_map, List.length_range], fun c hc => ?_⟩
            obtain ⟨j, _, rfl⟩ := List.mem_map.mp hc
            have := at0_sml ha.2 j
            have := at0_sml hb.2 j
            omega
      | [], hl0, _, _ => rw [← hl0] at hk; exact absurd hk (by rw [List.length_nil]; omega)
      | [a], hl0, _, _ => rw [← hl0] at hk; exact absurd hk (by rw [List.length_singleton]; omega)
  obtain ⟨L1, e5, l5, q5⟩ := C
  obtain ⟨v, d4, e6, h6, _, _⟩ := take_ok h3 (m := 3) (by decide) (by decide)
  have hz : ∃ L2 : List Row, (if decide (v = 0) = true then
lR (rwl L1) (
(rN fTup [(D.int 0)]).bind fun d131 =>
(r2 fMul d131 (.int (n : Nat))).bind fun d132 =>
(rOwn fAppend (rwl L1) [d132]).bind fun p133 =>
.ok p133.2) else
.ok (rwl L1) : Res D) = .ok (rwl L2) ∧ L2.length ≤ 5 ∧ ∀ r ∈ L2, r.length = n ∧ Sml 9 r := by
    by_cases hv : v = 0
    · refine ⟨L1 ++ [List.replicate n 0], ?_, by rw [List.length_append, List.length_singleton]; omega, fun r hr => ?_⟩
      · rw [if_pos (decide_eq_true hv)]
        show (lR (D.lst (L1.map rw)) _) = _
        rw [lR_l, r_tup1, Res.ok_bind, zero_rw hn, Res.ok_bind]
        have := append_ok (xs := L1.map rw) (y := rw (List.replicate n 0)) (by rw [List.length_map]; omega)
        show ((rOwn fAppend (D.lst (L1.map rw)) [rw (List.replicate n 0)]).bind _) = _
        rw [this]
        unfold rwl
        rw [List.map_append]
        rfl
      · rcases List.mem_append.mp hr with hr | hr
        · exact q5 r hr
        · rw [List.mem_singleton.mp hr]
          exact ⟨List.length_replicate, fun c hc => by rw [List.eq_of_mem_replicate hc]; decide⟩
    · exact ⟨L1, by rw [if_neg (by rw [decide_eq_true_eq]; exact hv)], by omega, q5⟩
  obtain ⟨L2, e7, l7, q7⟩ := hz
  refine ⟨L2, d4, noEx_ok ?_, h6, l7, q7⟩
  refine bd_ok e1 ?_
  refine bd_ok (rg1_ok (by omega)) ?_
  refine bd_ok e2 ?_
  rw [e3]
  refine bd_ok (r_lenL _) ?_
  rw [List.length_map, hl0]
  refine bd_ok (rc_gt _ _) ?_
  refine bd_ok e4 ?_
  refine bd_ok e5 ?_
  refine bd_ok e6 ?_
  refine bd_ok (rc_eq _ _) ?_
  refine bd_ok e7 rfl
/-! ### sameness -/
theorem same_int (m : Nat) (i : Int) : G__law_same (m + 1) (.int i) (.int i) = .ok (.bl true) := by
  show H__law_same (G__law_same m) (.int i) (.int i) = _
  have e : r2 (cmp cEq) (.int i) (.int i) = .ok (.bl true) := by rw [r_eqv, decide_eq_true rfl]
  show ((G__law_is_whole (.int i)).bind fun d125 => (andG d125 (D.bl false) ((r2 (cmp cEq) (.int i) (.int i)).bind fun d128 => .ok d128)).bind fun d129 => .ok d129) = _
  rw [is_whole_ok (.int i) rfl, Res.ok_bind]
  show ((Res.bind (r2 (cmp cEq) (.int i) (.int i)) _).bind _) = _
  rw [e]
  rfl
theorem same_tup {m : Nat} {xs : List D} (hz : xs.length ≤ 1000000) (h : ∀ x ∈ xs, G__law_same m x x = .ok (.bl true)) : G__law_same (m + 1) (.tup xs) (.tup xs) = .ok (.bl true) := by
  show H__law_same (G__law_same m) (.tup xs) (.tup xs) = _
  have em : mapR (fun x86 => (r2 fIx (.tup xs) x86).bind fun d90 => (r2 fIx (.tup xs) x86).bind fun d91 => (G__law_same m d90 d91).bind fun d92 => .ok d92) ((List.range xs.length).map fun (j : Nat) => D.int (j : Nat)) = .ok ((List.range xs.length).map fun _ => D.bl true) := by
    refine mapR_eq (fun j hj => ?_) (by rw [List.length_range]; omega)
    have hj := List.mem_range.mp hj
    have hx : xs[j]? = some xs[j] := List.getElem?_eq_getElem hj
    rw [r_ixT hx, Res.ok_bind, Res.ok_bind, h _ (List.getElem_mem hj)]
    rfl
  show ((rN fLen [.tup xs]).bind fun d56 => (rN fLen [.tup xs]).bind fun d57 => (r2 (cmp cEq) d56 d57).bind fun d58 =>
(andG d58 (D.bl false) ((rN fLen [.tup xs]).bind fun d78 => (rLN rg1 [d78]).bind fun l79 =>
(mapR (fun x86 => (r2 fIx (.tup xs) x86).bind fun d90 => (r2 fIx (.tup xs) x86).bind fun d91 => (G__law_same m d90 d91).bind fun d92 => .ok d92) l79).bind fun l94 =>
(rN fAll [(D.lst l94)]).bind fun d96 => .ok d96)).bind fun d97 => .ok d97).bind _ = _
  rw [r_lenT, Res.ok_bind, Res.ok_bind, r_eqv, decide_eq_true rfl, Res.ok_bind, andG_t, Res.ok_bind, rg1_ok (by omega), Res.ok_bind, em, Res.ok_bind, r_all (fun _ => true)]
  have : ((List.range xs.length).all fun _ => true) = true := List.all_eq_true.mpr fun _ _ => rfl
  rw [this]
  rfl
theorem same_lst {m : Nat} {xs : List D} (h : G__law_same m (.tup xs) (.tup xs) = .ok (.bl true)) : G__law_same (m + 1) (.tup xs) (.lst xs) = .ok (.bl true) := by
  show H__law_same (G__law_same m) (.tup xs) (.lst xs) = _
  show ((Res.bind (G__law_same m (.tup xs) (.tup xs)) fun d110 => .ok d110).bind fun d => .ok d) = _
  rw [h]
  rfl
theorem same_rw (m : Nat) {r : Row} (h : r.length ≤ 1000000) : G__law_same (m + 2) (rw r) (rw r) = .ok (.bl true) :=
  same_tup (by rw [List.length_map]; exact h) fun x hx => by
    obtain ⟨c, _, rfl⟩ := List.mem_map.mp hx
    exact same_int m c
theorem same_rows (m : Nat) {L : List Row} (h : L.length ≤ 1000000) (hr : ∀ r ∈ L, r.length ≤ 1000000) : G__law_same (m + 3) (.tup (L.map rw)) (.tup (L.map rw)) = .ok (.bl true) :=
  same_tup (by rw [List.length_map]; exact h) fun x hx => by
    obtain ⟨c, hc, rfl⟩ := List.mem_map.mp hx
    exact same_rw m (hr c hc)
theorem says_ok (a : Bool) : G__law_says (.bl a) (.bl a) = .ok (.bl true) := by cases a <;> rfl
/-! ### rest, again -/
theorem space_bits {n : Nat} : ∀ (ks : List Nat) (b : Nat) (s : List Row × List Row), GoodS n b s → ∃ b', b' + 1 = 2 ^ ((ks.foldl (stepS n) s).2.length - s.2.length) * (b + 1) ∧ s.2.length ≤ (ks.foldl (stepS n) s).2.length ∧ GoodS n b' (ks.foldl (stepS n) s)
  | [], b, s, h => ⟨b, by rw [List.foldl_nil, Nat.sub_self, Nat.pow_zero, Nat.one_mul], Nat.le_refl _, h⟩
  | k :: ks, b, s, h => by
    rw [List.foldl_cons]
    cases e : pickK s.1 k with
    | nil =>
      have e2 : stepS n s k = s := by unfold stepS; rw [e]
      rw [e2]
      exact space_bits ks b s h
    | cons p rest =>
      obtain ⟨b', q1, q2, q3⟩ := space_bits ks (b + b + 1) (stepS n s k) (step_good k h)
      have hl : (stepS n s k).2.length = s.2.length + 1 := by
        unfold stepS
        rw [e]
        show ((s.2.map _) ++ [p.1]).length = _
        rw [List.length_append, List.length_map, List.length_singleton]
      refine ⟨b', ?_, by omega, q3⟩
      rw [q1, hl, show b + b + 1 + 1 = 2 * (b + 1) by omega, ← Nat.mul_assoc, ← Nat.pow_succ]
      congr 2
      omega
theorem start_good {n b : Nat} {L : List Row} (h : Rws n b L) : GoodS n b (startS L n) := by
  have hle : (L.filter fun x => decide (leadR x < n)).length ≤ L.length := List.length_filter_le _ _
  refine ⟨⟨?_, fun r hr => ?_⟩, ⟨Nat.zero_le _, fun r hr => absurd hr (by simp [startS])⟩, ?_⟩
  · show ((L.filter fun x => decide (leadR x < n)).map slimR).length ≤ 1000
    rw [List.length_map]
    exact Nat.le_trans hle h.1
  · obtain ⟨x, hx, rfl⟩ := List.mem_map.mp hr
    obtain ⟨x1, x2⟩ := h.2 x (List.mem_filter.mp hx).1
    exact ⟨by rw [slim_len]; exact x1, slim_bd x2⟩
  · show ((L.filter fun x => decide (leadR x < n)).map slimR).length + 0 ≤ 1000
    rw [List.length_map]
    exact Nat.le_trans hle h.1
theorem space_bd {n b : Nat} {L : List Row} (h : Rws n b L) : ∃ b', b' + 1 = 2 ^ (spaceR L n).length * (b + 1) ∧ Rws n b' (spaceR L n) := by
  obtain ⟨b', q1, _, q3⟩ := space_bits (List.range n) b (startS L n) (start_good h)
  refine ⟨b', ?_, ?_⟩
  · rw [q1]
    show 2 ^ (_ - 0) * _ = _
    unfold spaceR
    rw [List.length_map, Nat.sub_zero]
  · unfold spaceR
    refine ⟨by rw [List.length_map]; exact q3.2.1.1, fun r hr => ?_⟩
    obtain ⟨x, hx, rfl⟩ := List.mem_map.mp hr
    obtain ⟨x1, x2⟩ := q3.2.1.2 x hx
    exact ⟨by rw [slim_len]; exact x1, slim_bd x2⟩
end SP

/-! SP: spaces by the law, parts, what stands beside. -/
namespace SP
open PySem PySem.Spec PyProof.Rows L2 MM
/-! ### _law_is_space -/
theorem r_itR (r : Row) : rL itS (rw r) = .ok (r.map .int) := rfl
def ldAt (L : List Row) (k : Nat) : Nat := (L.map leadR).getD k 0
def rwAt (L : List Row) (k : Nat) : Row := L.getD k []
theorem ldAt_get {L : List Row} {k : Nat} (h : k < L.length) : ldAt L k = leadR (rwAt L k) := by
  unfold ldAt rwAt
  rw [List.getD_eq_getElem?_getD, List.getD_eq_getElem?_getD, List.getElem?_map, List.getElem?_eq_getElem h]
  rfl
theorem rwAt_mem {L : List Row} {k : Nat} (h : k < L.length) : rwAt L k ∈ L := by
  unfold rwAt
  rw [List.getD_eq_getElem?_getD, List.getElem?_eq_getElem h]
  exact List.getElem_mem h
theorem rwAt_ix {L : List Row} {k : Nat} (h : k < L.length) : r2 fIx (.tup (L.map rw)) (.int (k : Nat)) = .ok (rw (rwAt L k)) := by
  refine r_ixT ?_
  rw [List.getElem?_map, List.getElem?_eq_getElem h]
  unfold rwAt
  rw [List.getD_eq_getElem?_getD, List.getElem?_eq_getElem h]
  rfl
theorem ldAt_ix {L : List Row} {k : Nat} (h : k < L.length) : r2 fIx (.lst (L.map fun r => D.int (leadR r : Nat))) (.int (k : Nat)) = .ok (.int (ldAt L k : Nat)) := by
  refine r_ixL ?_
  rw [List.getElem?_map, List.getElem?_eq_getElem h, ldAt_get h]
  unfold rwAt
  rw [List.getD_eq_getElem?_getD, List.getElem?_eq_getElem h]
  rfl
/-- what speaks against the k-th row -/
def badK (L : List Row) (n k : Nat) : Bool := decide (ldAt L k = n) || (decide (at0 (rwAt L k) (ldAt L k) < 0) || (decide (slimR (rwAt L k) ≠ rwAt L k) || (decide (0 < k) && decide (ldAt L k ≤ ldAt L (k - 1)))))
def offB (L : List Row) : Bool := (List.range L.length).all fun k => ((List.range L.length).filter fun i => decide (i ≠ k)).all fun i => decide (at0 (rwAt L i) (ldAt L k) = 0)
theorem wide_ok {L : List Row} {n : Nat} (hr : ∀ r ∈ L, r.length = n) (hn : n ≤ 1000) (hl : L.length ≤ 1000) : mapR (fun x227 =>
(rN fIsi [x227, (D.ty .tuple)]).bind fun d231 =>
(andG d231 (D.bl false) ((rN fLen [x227]).bind fun d265 =>
(r2 (cmp cEq) d265 (.int (n : Nat))).bind fun d266 =>
(andG d266 (D.bl false) ((rL itS x227).bind fun l281 =>
(mapR (fun x286 =>
(G__law_is_whole x286).bind fun d290 =>
.ok d290) l281).bind fun l292 =>
(rN fAll [(D.lst l292)]).bind fun d294 =>
.ok d294)).bind fun d295 =>
.ok d295)).bind fun d298 =>
.ok d298) (L.map rw) = .ok (L.map fun _ => D.bl true) := by
  refine mapR_eq (fun r hm => ?_) (by omega)
  have e0 : rN fIsi [rw r, .ty .tuple] = .ok (.bl true) := rfl
  have e1 : rN fLen [rw r] = .ok (.int (n : Nat)) := by
    show Res.ok (D.int ((r.map D.int).length : Nat)) = _
    rw [List.length_map, hr r hm]
  have e2 : mapR (fun x286 => (G__law_is_whole x286).bind fun d290 => .ok d290) (r.map D.int) = .ok (r.map fun _ => D.bl true) := mapR_eq (fun c _ => rfl) (by have := hr r hm; omega)
  rw [e0, Res.ok_bind, andG_t, e1, Res.ok_bind, r_eqv, decide_eq_true rfl, Res.ok_bind, andG_t, r_itR, Res.ok_bind, e2, Res.ok_bind, r_all (fun _ => true)]
  have : (r.all fun _ => true) = true := List.all_eq_true.mpr fun _ _ => rfl
  rw [this]
  rfl
theorem badK_ok {L : List Row} {n b k : Nat} (hr : ∀ r ∈ L, r.length = n ∧ Bd b r) (hb : b ≤ 8900) (hn : n ≤ 1000) (hk : k < L.length) : (orB (decide (((ldAt L k : Nat) : Int) = (n : Nat))) true ((r2 fIx (.tup (L.map rw)) (.int (k : Nat))).bind fun d662 =>
(r2 fIx (D.lst (L.map fun r => D.int (leadR r : Nat))) (.int (k : Nat))).bind fun d663 =>
(r2 fIx d662 d663).bind fun d664 =>
(rc2 cLt d664 (D.int 0)).bind fun t665 =>
(orB t665 true ((r2 fIx (.tup (L.map rw)) (.int (k : Nat))).bind fun d695 =>
(G__law_slim d695).bind fun d696 =>
(r2 fIx (.tup (L.map rw)) (.int (k : Nat))).bind fun d698 =>
(rc2 cNe d696 d698).bind fun t699 =>
(orB t699 true ((rc2 cGt (.int (k : Nat)) (D.int 0)).bind fun t711 =>
(andB t711 false ((r2 fIx (D.lst (L.map fun r => D.int (leadR r : Nat))) (.int (k : Nat))).bind fun d716 =>
(r2 fSub (.int (k : Nat)) (D.int 1)).bind fun d717 =>
(r2 fIx (D.lst (L.map fun r => D.int (leadR r : Nat))) d717).bind fun d718 =>
(rc2 cLe d716 d718).bind fun t719 =>
.ok t719)).bind fun t720 =>
.ok t720)).bind fun t722 =>
.ok t722)).bind fun t724 =>
.ok t724)) = .ok (badK L n k) := by
  have hm := rwAt_mem hk
  have hlk := ldAt_get hk
  rw [nat_eq]
  refine or_b fun hne => ?_
  have hne := of_decide_eq_false hne
  have hlt : ldAt L k < n := by
    have := lead_le (rwAt L k)
    have := (hr _ hm).1
    omega
  refine bd_ok (rwAt_ix hk) (bd_ok (ldAt_ix hk) (bd_ok (at0_ix (by rw [(hr _ hm).1]; exact hlt)) (bd_ok (rc_lt _ _) ?_)))
  refine bd_ok (or_b (b := decide (slimR (rwAt L k) ≠ rwAt L k) || (decide (0 < k) && decide (ldAt L k ≤ ldAt L (k - 1)))) fun _ => ?_) rfl
  refine bd_ok (rwAt_ix hk) (bd_ok (lslim_ok (isL_rw _) ((hr _ hm).2.mono hb) (by have := (hr _ hm).1; omega)) (bd_ok (rwAt_ix hk) (bd_ok (ne_rw _ _) ?_)))
  refine bd_ok (or_b (b := decide (0 < k) && decide (ldAt L k ≤ ldAt L (k - 1))) fun _ => ?_) rfl
  refine bd_ok (rc_gt _ _) ?_
  have : decide ((0 : Int) < (k : Nat)) = decide (0 < k) := decide_eq_decide.mpr (by omega)
  rw [this]
  refine bd_ok (and_b (b := decide (ldAt L k ≤ ldAt L (k - 1))) fun h0 => ?_) rfl
  have h0 := of_decide_eq_true h0
  refine bd_ok (ldAt_ix hk) (bd_ok (r_subi _ _) ?_)
  rw [show ((k : Nat) : Int) - 1 = ((k - 1 : Nat) : Int) by omega]
  refine bd_ok (ldAt_ix (by omega)) (bd_ok (rc_le _ _) ?_)
  exact congrArg Res.ok (decide_eq_decide.mpr (by omega))
theorem offK_ok {L : List Row} {n b k : Nat} (hr : ∀ r ∈ L, r.length = n ∧ Bd b r) (hn : n ≤ 1000) (hl : L.length ≤ 1000) (hA : (List.range L.length).any (badK L n) = false) (hk : k < L.length) : ((rN fLen [.tup (L.map rw)]).bind fun d761 =>
(rLN rg1 [d761]).bind fun l762 =>
(compR (fun x771 =>
(rc2 cNe x771 (.int (k : Nat))).bind fun t775 =>
if t775 = true then
(r2 fIx (.tup (L.map rw)) x771).bind fun d776 =>
(r2 fIx (D.lst (L.map fun r => D.int (leadR r : Nat))) (.int (k : Nat))).bind fun d778 =>
(r2 fIx d776 d778).bind fun d779 =>
(r2 (cmp cEq) d779 (D.int 0)).bind fun d780 =>
.ok (some d780) else .ok none) l762).bind fun l781 =>
(rN fAll [(D.lst l781)]).bind fun d783 =>
.ok d783) = .ok (D.bl (((List.range L.length).filter fun i => decide (i ≠ k)).all fun i => decide (at0 (rwAt L i) (ldAt L k) = 0))) := by
  have hm := rwAt_mem hk
  have ln : rN fLen [.tup (L.map rw)] = .ok (.int (L.length : Nat)) := by rw [r_lenT, List.length_map]
  have hlt : ldAt L k < n := by
    have := List.any_eq_false.mp hA k (List.mem_range.mpr hk)
    unfold badK at this
    have hne : ldAt L k ≠ n := fun z => this (by rw [decide_eq_true z]; rfl)
    have := lead_le (rwAt L k)
    have := (hr _ hm).1
    have := ldAt_get hk
    omega
  refine bd_ok ln ?_
  refine bd_ok (rg1_ok (by omega)) ?_
  refine bd_ok (compR_eq (p := fun i => decide (i ≠ k)) (g := fun i => D.bl (decide (at0 (rwAt L i) (ldAt L k) = 0))) (fun i hi => ?_) (by rw [List.length_range]; omega)) ?_
  · have hi := List.mem_range.mp hi
    have hmi := rwAt_mem hi
    rw [rc_ne, Res.ok_bind]
    have : decide (((i : Nat) : Int) ≠ (k : Nat)) = decide (i ≠ k) := decide_eq_decide.mpr (by omega)
    rw [this, rwAt_ix hi, Res.ok_bind, ldAt_ix hk, Res.ok_bind, at0_ix (by rw [(hr _ hmi).1]; exact hlt), Res.ok_bind, r_eqv, Res.ok_bind]
    cases decide (i ≠ k) <;> rfl
  · rw [r_all]
    rfl
theorem law_space_ok {L : List Row} {n b : Nat} (hr : ∀ r ∈ L, r.length = n ∧ Bd b r) (hb : b ≤ 8900) (hn : n ≤ 1000) (hl : L.length ≤ 1000) :
    G__law_is_space (.tup (L.map rw)) (.int (n : Nat)) = .ok (.bl (!(List.range L.length).any (badK L n) && offB L)) := by
  unfold G__law_is_space
  have e0 : rN fIsi [.tup (L.map rw), .ty .tuple] = .ok (.bl true) := rfl
  have ea : (L.all fun _ => true) = true := List.all_eq_true.mpr fun _ _ => rfl
  refine bd_ok e0 (bd_ok (r_trub _) (bd_ok (a := false) (or_b (a := false) (b := false) fun _ => ?_) ?_))
  · refine bd_ok (r_itT _) (bd_ok (wide_ok (fun r hm => (hr r hm).1) hn hl) (bd_ok (r_all (fun _ => true) L) ?_))
    rw [ea]
    rfl
  rw [if_neg Bool.false_ne_true]
  have em : mapR (fun x312 => (G__law_lead x312).bind fun d316 => .ok d316) (L.map rw) = .ok (L.map fun r => D.int (leadR r : Nat)) := mapR_eq (g := fun r => D.int (leadR r : Nat)) (fun r hm => by rw [llead_ok (by have := (hr r hm).1; omega)]; rfl) (by omega)
  have ln : rN fLen [.tup (L.map rw)] = .ok (.int (L.length : Nat)) := by rw [r_lenT, List.length_map]
  refine bd_ok (r_itT _) (bd_ok em ?_)
  refine bd_ok ln ?_
  refine bd_ok (rg1_ok (by omega)) ?_
  by_cases hA : (List.range L.length).any (badK L n) = true
  · refine bd_rt (search_rt (c := badK L n) (v := D.bl false) hA fun k hk => ?_) ?_
    · have hk := List.mem_range.mp hk
      refine bd_ok (ldAt_ix hk) (bd_ok (rc_eq _ _) (bd_ok (badK_ok hr hb hn hk) ?_))
      cases badK L n k <;> rfl
    · rw [hA]
      rfl
  · have hA := Bool.eq_false_iff.mpr hA
    refine bd_nx (search_nx (c := badK L n) (v := D.bl false) hA fun k hk => ?_) ?_
    · have hk := List.mem_range.mp hk
      refine bd_ok (ldAt_ix hk) (bd_ok (rc_eq _ _) (bd_ok (badK_ok hr hb hn hk) ?_))
      cases badK L n k <;> rfl
    · refine bd_ok ln ?_
      refine bd_ok (rg1_ok (by omega)) ?_
      refine bd_ok (mapR_eq (g := fun k => D.bl (((List.range L.length).filter fun i => decide (i ≠ k)).all fun i => decide (at0 (rwAt L i) (ldAt L k) = 0))) (fun k hk => offK_ok hr hn hl hA (List.mem_range.mp hk)) (by rw [List.length_range]; omega)) ?_
      refine bd_ok (r_all (fun k => ((List.range L.length).filter fun i => decide (i ≠ k)).all fun i => decide (at0 (rwAt L i) (ldAt L k) = 0)) _) ?_
      rw [hA]
      rfl
theorem law_space_iff {L : List Row} {n : Nat} (hr : ∀ r ∈ L, r.length = n) : (!(List.range L.length).any (badK L n) && offB L) = decide (spaceR L n = L) := by
  have key : (!(List.range L.length).any (badK L n) && offB L) = true ↔ spaceR L n = L := by
    rw [space_fix hr, Bool.and_eq_true, Bool.not_eq_true', List.any_eq_false]
    constructor
    · intro ⟨h1, h2⟩
      have hk : ∀ k < L.length, ldAt L k ≠ n ∧ slimR (rwAt L k) = rwAt L k ∧ (0 < k → ldAt L (k - 1) < ldAt L k) := fun k hk => by
        have := h1 k (List.mem_range.mpr hk)
        unfold badK at this
        simp only [Bool.or_eq_true, Bool.and_eq_true, decide_eq_true_eq, not_or, not_and] at this
        refine ⟨this.1, Decidable.not_not.mp this.2.2.1, fun h0 => ?_⟩
        have := this.2.2.2 h0
        omega
      have gi : ∀ r ∈ L, ∃ k, k < L.length ∧ rwAt L k = r := fun r hm => by
        obtain ⟨k, hk, e⟩ := List.getElem_of_mem hm
        refine ⟨k, hk, ?_⟩
        unfold rwAt
        rw [List.getD_eq_getElem?_getD, List.getElem?_eq_getElem hk, ← e]
        rfl
      have mono : ∀ j k, j < k → k < L.length → ldAt L j < ldAt L k := fun j k hjk hkl => by
        induction k with
        | zero => omega
        | succ k ih =>
          have := (hk (k + 1) hkl).2.2 (by omega)
          rw [show k + 1 - 1 = k by omega] at this
          rcases Nat.lt_or_ge j k with q | q
          · have := ih q (by omega); omega
          · rw [show j = k by omega]; exact this
      refine ⟨⟨hr, fun r hm => ?_, ?_, fun x hx y hy hne => ?_⟩, fun r hm => ?_⟩
      · obtain ⟨k, hkl, rfl⟩ := gi r hm
        have := (hk k hkl).1
        rw [ldAt_get hkl] at this
        have := lead_le (rwAt L k)
        have := hr _ hm
        omega
      · rw [List.pairwise_iff_getElem]
        intro i j hi hj hij
        have := mono i j hij hj
        rw [ldAt_get hi, ldAt_get hj] at this
        have ei : rwAt L i = L[i] := by unfold rwAt; rw [List.getD_eq_getElem?_getD, List.getElem?_eq_getElem hi]; rfl
        have ej : rwAt L j = L[j] := by unfold rwAt; rw [List.getD_eq_getElem?_getD, List.getElem?_eq_getElem hj]; rfl
        rw [ei, ej] at this
        exact this
      · obtain ⟨i, hi, rfl⟩ := gi x hx
        obtain ⟨k, hkl, rfl⟩ := gi y hy
        have hik : i ≠ k := fun z => hne (by rw [z])
        unfold offB at h2
        have h3 := List.all_eq_true.mp h2 k (List.mem_range.mpr hkl)
        have h4 := List.all_eq_true.mp h3 i (List.mem_filter.mpr ⟨List.mem_range.mpr hi, decide_eq_true hik⟩)
        have h4 := of_decide_eq_true h4
        rw [ldAt_get hkl] at h4
        exact h4
      · obtain ⟨k, hkl, rfl⟩ := gi r hm
        exact (hk k hkl).2.1
    · intro ⟨h1, h2⟩
      have inc : ∀ i j, (hi : i < L.length) → (hj : j < L.length) → i < j → ldAt L i < ldAt L j := fun i j hi hj hij => by
        have := List.pairwise_iff_getElem.mp h1.inc i j hi hj hij
        rw [ldAt_get hi, ldAt_get hj]
        have ei : rwAt L i = L[i] := by unfold rwAt; rw [List.getD_eq_getElem?_getD, List.getElem?_eq_getElem hi]; rfl
        have ej : rwAt L j = L[j] := by unfold rwAt; rw [List.getD_eq_getElem?_getD, List.getElem?_eq_getElem hj]; rfl
        rw [ei, ej]
        exact this
      refine ⟨fun k hk => ?_, ?_⟩
      · have hk := List.mem_range.mp hk
        have hm := rwAt_mem hk
        unfold badK
        simp only [Bool.or_eq_true, Bool.and_eq_true, decide_eq_true_eq, not_or, not_and]
        have hlt := h1.lt _ hm
        have hsl := h2 _ hm
        refine ⟨?_, ?_, Decidable.not_not.mpr hsl, fun h0 => ?_⟩
        · rw [ldAt_get hk]; omega
        · rw [ldAt_get hk]
          have := (slim_norm hsl (by rw [h1.len _ hm]; exact hlt)).2
          omega
        · have := inc (k - 1) k (by omega) hk (by omega)
          omega
      · unfold offB
        refine List.all_eq_true.mpr fun k hk => List.all_eq_true.mpr fun i hi => decide_eq_true ?_
        have hk := List.mem_range.mp hk
        obtain ⟨hi, hik⟩ := List.mem_filter.mp hi
        have hi := List.mem_range.mp hi
        have hik := of_decide_eq_true hik
        rw [ldAt_get hk]
        refine h1.off _ (rwAt_mem hi) _ (rwAt_mem hk) ?_
        rw [← ldAt_get hi, ← ldAt_get hk]
        rcases Nat.lt_or_gt_of_ne hik with q | q
        · have := inc i k hi hk q; omega
        · have := inc k i hk hi q; omega
  by_cases h : spaceR L n = L
  · rw [decide_eq_true h]; exact key.mpr h
  · rw [decide_eq_false h]
    exact Bool.eq_false_iff.mpr fun z => h (key.mp z)
theorem law_space_ok' {L : List Row} {n b : Nat} (hr : ∀ r ∈ L, r.length = n ∧ Bd b r) (hb : b ≤ 8900) (hn : n ≤ 1000) (hl : L.length ≤ 1000) :
    G__law_is_space (.tup (L.map rw)) (.int (n : Nat)) = .ok (.bl (decide (spaceR L n = L))) := by
  rw [law_space_ok hr hb hn hl, law_space_iff fun r hm => (hr r hm).1]
/-! ### within, parts -/
theorem is_within_ok {mf : Nat} {x : Row} {L : List Row} {n b q : Nat} (hn : n ≤ 256) (hx : x.length = n ∧ Bd q x) (h : Rws n b L) (hb : 2 ^ n * (b + 1) ≤ 8802) (he : spaceR L n = L) (hq : (L.length + 1) * (b + 1) + q ≤ 8800) :
    ∃ w, G_is_within mf (rw x) (.tup (L.map rw)) (.int (n : Nat)) = .ok (.bl w) ∧ (w = true ↔ Sp n L x) := by
  obtain ⟨hred, hsl⟩ := (space_fix fun r hr => (h.2 r hr).1).mp he
  refine ⟨decide (restR x L = List.replicate n 0), ?_, by rw [decide_eq_true_eq]; exact hred.rest_zero hx.1⟩
  unfold G_is_within
  rw [check_row_ok (by omega) hx.1, Res.ok_bind, check_space_ok hn h hb he, Res.ok_bind, rest_ok (n := n) (by omega) (isL_rw x) (isL_tup _) (fun l hl => ⟨(h.2 l hl).1, hred.lt l hl, (h.2 l hl).2⟩) hx.1 hx.2 hq, Res.ok_bind, r_tup1, Res.ok_bind, zero_rw (by omega), Res.ok_bind, eq_rw]
  rfl
theorem all_iff {α : Type} {L : List α} {p : α → Bool} {P : α → Prop} (h : ∀ x ∈ L, p x = true ↔ P x) : L.all p = true ↔ ∀ x ∈ L, P x := by
  rw [List.all_eq_true]
  exact ⟨fun q x hx => (h x hx).mp (q x hx), fun q x hx => (h x hx).mpr (q x hx)⟩
theorem is_part_ok {mf : Nat} {S T : List Row} {n b : Nat} (hn : n ≤ 256) (hS : Rws n b S) (hT : Rws n b T) (hb : 2 ^ n * (b + 1) ≤ 8802) (eS : spaceR S n = S) (eT : spaceR T n = T) (hq : (T.length + 1) * (b + 1) + b ≤ 8800) :
    ∃ w, G_is_part mf (.tup (S.map rw)) (.tup (T.map rw)) (.int (n : Nat)) = .ok (.bl w) ∧ (w = true ↔ ∀ r ∈ S, Sp n T r) := by
  obtain ⟨hred, hsl⟩ := (space_fix fun r hr => (hT.2 r hr).1).mp eT
  refine ⟨S.all fun x => decide (leadR (restR x T) = n), ?_, all_iff fun x hx => ?_⟩
  · unfold G_is_part
    have e : mapR (fun x13 => (G_rest_of x13 (.tup (T.map rw))).bind fun d17 => (G_lead_of d17).bind fun d19 => (r2 (cmp cEq) d19 (.int (n : Nat))).bind fun d21 => .ok d21) (S.map rw) = .ok (S.map fun x => D.bl (decide (leadR (restR x T) = n))) := by
      refine mapR_eq (fun x hx => ?_) (by have := hS.1; omega)
      obtain ⟨x1, x2⟩ := hS.2 x hx
      rw [rest_ok (n := n) (by omega) (isL_rw x) (isL_tup _) (fun l hl => ⟨(hT.2 l hl).1, hred.lt l hl, (hT.2 l hl).2⟩) x1 x2 hq, Res.ok_bind, lead_of_ok (isL_rw _), Res.ok_bind, r_eqv, nat_eq]
      rfl
    rw [check_space_ok hn hS hb eS, Res.ok_bind, check_space_ok hn hT hb eT, Res.ok_bind, r_itT, Res.ok_bind, e, Res.ok_bind, r_all]
    rfl
  · have x1 := (hS.2 x hx).1
    rw [decide_eq_true_eq, lead_n (hred.rest x1).len]
    exact hred.rest_zero x1
/-! ### unit rows -/
def unitRow (n i : Nat) : Row := (List.range n).map fun j => if i = j then 1 else 0
def unitR (n : Nat) : List Row := (List.range n).map (unitRow n)
theorem unit_len (n i : Nat) : (unitRow n i).length = n := by unfold unitRow; rw [List.length_map, List.length_range]
theorem unit_at {n i k : Nat} (hk : k < n) : at0 (unitRow n i) k = if i = k then 1 else 0 := by
  unfold at0 unitRow
  rw [List.getD_eq_getElem?_getD, List.getElem?_map, List.getElem?_range hk]
  rfl
theorem unit_lead {n i : Nat} (hi : i < n) : leadR (unitRow n i) = i :=
  lead_of_low (unit_len n i) hi (by rw [unit_at hi, if_pos rfl]; decide) fun j hj => by rw [unit_at (by omega), if_neg (by omega)]
theorem unit_slim {n i : Nat} (hi : i < n) : slimR (unitRow n i) = unitRow n i := by
  have hl := unit_lead hi
  have h1 : gcdR (unitRow n i) = 1 := by
    have hm : (1 : Int) ∈ unitRow n i := List.mem_map.mpr ⟨i, List.mem_range.mpr hi, if_pos rfl⟩
    have := gcdR_dvd _ _ hm
    exact Nat.eq_one_of_dvd_one (by simpa using this)
  have h2 : fstNZ (unitRow n i) = 1 := by
    rw [fstNZ_lead _ (by rw [unit_len, hl]; exact hi), hl, unit_at hi, if_pos rfl]
  unfold slimR
  rw [if_neg (by rw [h1]; decide)]
  have h3 : sgnG (unitRow n i) = 1 := by unfold sgnG; rw [h2, if_neg (by decide), h1]; rfl
  rw [h3]
  exact (List.map_congr_left fun c _ => Int.fdiv_one c).trans (List.map_id' _)
theorem units_red {n : Nat} {K : List Nat} (hK : K.Pairwise (· < ·)) (hn : ∀ k ∈ K, k < n) : Red n (K.map (unitRow n)) where
  len := fun r hr => by
    obtain ⟨k, _, rfl⟩ := List.mem_map.mp hr
    exact unit_len n k
  lt := fun r hr => by
    obtain ⟨k, hk, rfl⟩ := List.mem_map.mp hr
    rw [unit_lead (hn k hk)]; exact hn k hk
  inc := List.pairwise_map.mpr (hK.imp_of_mem fun ha hb q => by rw [unit_lead (hn _ ha), unit_lead (hn _ hb)]; exact q)
  off := fun x hx y hy hne => by
    obtain ⟨a, ha, rfl⟩ := List.mem_map.mp hx
    obtain ⟨b, hb, rfl⟩ := List.mem_map.mp hy
    rw [unit_lead (hn a ha), unit_lead (hn b hb)] at hne
    rw [unit_lead (hn b hb), unit_at (hn b hb), if_neg hne]
theorem units_lst {n : Nat} {K : List Nat} (hK : K.Pairwise (· < ·)) (hn : ∀ k ∈ K, k < n) : Lst n (K.map (unitRow n)) (K.map (unitRow n)) :=
  Lst.self (units_red hK hn) fun r hr => by
    obtain ⟨k, hk, rfl⟩ := List.mem_map.mp hr
    exact unit_slim (hn k hk)
/-- a row that is 0 but for K is a sum of K's unit rows -/
theorem units_span {n : Nat} {K : List Nat} (hK : K.Pairwise (· < ·)) (hn : ∀ k ∈ K, k < n) {x : Row} (hx : x.length = n) (h0 : ∀ j < n, j ∉ K → at0 x j = 0) : Sp n (K.map (unitRow n)) x := by
  have hr := units_red hK hn
  obtain ⟨h1, h2, h3, h4, h5⟩ := rest_inv (K.map (unitRow n)) x (fun r hm => ⟨hr.len r hm, hr.lt r hm⟩) hr.pw hx
  have : restR x (K.map (unitRow n)) = List.replicate n 0 := row_ext h1 List.length_replicate fun j hj => by
    rw [at0_zero]
    by_cases hjk : j ∈ K
    · have := h2 (unitRow n j) (List.mem_map.mpr ⟨j, hjk, rfl⟩)
      rw [unit_lead hj] at this
      exact this
    · refine (h5 j fun r hm => ?_).mpr (h0 j hj hjk)
      obtain ⟨k, hk, rfl⟩ := List.mem_map.mp hm
      rw [unit_at hj, if_neg fun (z : k = j) => hjk (z ▸ hk)]
  exact (hr.rest_zero hx).mp this
theorem all_span {n : Nat} {x : Row} (hx : x.length = n) : Sp n (unitR n) x := units_span List.pairwise_lt_range (fun k hk => List.mem_range.mp hk) hx fun j hj hnj => absurd (List.mem_range.mpr hj) hnj
theorem unit_bd (n : Nat) (hn : n ≤ 1000) : Rws n 1 (unitR n) := ⟨by unfold unitR; rw [List.length_map, List.length_range]; exact hn, fun r hr => by
  obtain ⟨k, _, rfl⟩ := List.mem_map.mp hr
  refine ⟨unit_len n k, fun c hc => ?_⟩
  obtain ⟨j, _, rfl⟩ := List.mem_map.mp hc
  split <;> decide⟩
theorem unit_fix (n : Nat) : spaceR (unitR n) n = unitR n := (units_lst (K := List.range n) List.pairwise_lt_range fun k hk => List.mem_range.mp hk).fix
theorem unit_table_ok {n : Nat} (hn : n ≤ 1000) : G_unit_table (.int (n : Nat)) = .ok (.tup ((unitR n).map rw)) ∧ G__law_unit (.int (n : Nat)) = .ok (.tup ((unitR n).map rw)) := by
  have e : ∀ i : Nat, mapR (fun x27 => (r2 (cmp cEq) (.int (i : Nat)) x27).bind fun d31 => (rN fInt1 [d31]).bind fun d32 => .ok d32) ((List.range n).map fun (k : Nat) => D.int (k : Nat)) = .ok ((unitRow n i).map D.int) := fun i => by
    unfold unitRow
    rw [List.map_map]
    refine mapR_eq (g := fun j => D.int (if i = j then 1 else 0)) (fun j _ => ?_) (by rw [List.length_range]; omega)
    rw [r_eqv, nat_eq, Res.ok_bind, r_int1b, Res.ok_bind]
    by_cases h : i = j
    · rw [decide_eq_true h, if_pos h]; rfl
    · rw [decide_eq_false h, if_neg h]; rfl
  have key : ((rLN rg1 [.int (n : Nat)]).bind fun l1 => (mapR (fun x18 => (rLN rg1 [.int (n : Nat)]).bind fun l22 => (mapR (fun x27 => (r2 (cmp cEq) x18 x27).bind fun d31 => (rN fInt1 [d31]).bind fun d32 => .ok d32) l22).bind fun l33 => (rN fTupOf [(D.lst l33)]).bind fun d35 => .ok d35) l1).bind fun l36 => (rN fTupOf [(D.lst l36)]).bind fun d38 => .ok d38) = .ok (.tup ((unitR n).map rw)) := by
    refine bd_ok (rg1_ok (by omega)) ?_
    refine bd_ok (mapR_eq (g := fun i => rw (unitRow n i)) (fun i _ => ?_) (by rw [List.length_range]; omega)) ?_
    · refine bd_ok (rg1_ok (by omega)) ?_
      refine bd_ok (e i) ?_
      rfl
    · unfold unitR
      rw [List.map_map]
      rfl
  exact ⟨key, key⟩
theorem whole_ok {n : Nat} (hn : n ≤ 1000) : G_whole_space (.int (n : Nat)) = .ok (.tup ((unitR n).map rw)) := by
  unfold G_whole_space
  rw [(unit_table_ok hn).1]
  rfl
/-! ### free places, beside -/
def freeR (S : List Row) (n : Nat) : List Nat := (List.range n).filter fun k => decide (k ∉ S.map leadR)
theorem notin_ok (k : Nat) (S : List Row) : rc2 cNotIn (.int (k : Nat)) (.lst (S.map fun r => D.int (leadR r : Nat))) = .ok (decide (k ∉ S.map leadR)) := by
  have h1 : (S.map fun r => D.int (leadR r : Nat)).all flatD = true := by
    rw [List.all_map]
    exact List.all_eq_true.mpr fun _ _ => rfl
  have h2 : cIn (.int (k : Nat)) (.lst (S.map fun r => D.int (leadR r : Nat))) = some (decide (k ∈ S.map leadR)) := by
    show (if flatD (D.int (k : Nat)) = true ∧ (S.map fun r => D.int (leadR r : Nat)).all flatD = true then some ((S.map fun r => D.int (leadR r : Nat)).any fun y => eqD y (D.int (k : Nat))) else none) = _
    rw [if_pos ⟨rfl, h1⟩]
    congr 1
    induction S with
    | nil => rfl
    | cons r S ih =>
      rw [List.map_cons, List.any_cons, List.map_cons]
      have h1' : (S.map fun r => D.int (leadR r : Nat)).all flatD = true := by
        rw [List.all_map]
        exact List.all_eq_true.mpr fun _ _ => rfl
      rw [ih h1']
      have : eqD (D.int (leadR r : Nat)) (D.int (k : Nat)) = decide (k = leadR r) := by
        show (((leadR r : Nat) : Int) == (k : Nat)) = _
        by_cases h : k = leadR r
        · rw [decide_eq_true h, h]; simp
        · rw [decide_eq_false h]
          exact beq_eq_false_iff_ne.mpr (by omega)
      rw [this, ← Bool.decide_or]
      exact decide_eq_decide.mpr (by rw [List.mem_cons])
  unfold rc2 cNotIn
  rw [h2]
  show Res.ok (!decide (k ∈ S.map leadR)) = _
  rw [decide_not]
theorem free_comp {S : List Row} {n : Nat} (hn : n ≤ 1000) : compR (fun x25 => (rc2 cNotIn x25 (D.lst (S.map fun r => D.int (leadR r : Nat)))).bind fun t30 => if t30 = true then .ok (some x25) else .ok none) ((List.range n).map fun (k : Nat) => D.int (k : Nat)) = .ok ((freeR S n).map fun (k : Nat) => D.int (k : Nat)) :=
  compR_eq (p := fun k => decide (k ∉ S.map leadR)) (fun k _ => by
    rw [notin_ok, Res.ok_bind]
    cases decide (k ∉ S.map leadR) <;> rfl) (by rw [List.length_range]; omega)
theorem free_ok {mf : Nat} {S : List Row} {n b : Nat} (hn : n ≤ 256) (hS : Rws n b S) (hb : 2 ^ n * (b + 1) ≤ 8802) (eS : spaceR S n = S) : G_free_places mf (.tup (S.map rw)) (.int (n : Nat)) = .ok (.tup ((freeR S n).map fun (k : Nat) => D.int (k : Nat))) := by
  unfold G_free_places
  have em : mapR (fun x312 => (G_lead_of x312).bind fun d316 => .ok d316) (S.map rw) = .ok (S.map fun r => D.int (leadR r : Nat)) := mapR_eq (g := fun r => D.int (leadR r : Nat)) (fun r hm => by rw [lead_of_ok (isL_rw r)]; rfl) (by have := hS.1; omega)
  rw [check_space_ok hn hS hb eS, Res.ok_bind, r_itT, Res.ok_bind, em, Res.ok_bind]
  refine bd_ok (rg1_ok (by omega)) ?_
  rw [free_comp (by omega)]
  rfl
def besideR (S : List Row) (n : Nat) : List Row := (freeR S n).map (unitRow n)
theorem unit_ix {n k : Nat} (hk : k < n) : r2 fIx (.tup ((unitR n).map rw)) (.int (k : Nat)) = .ok (rw (unitRow n k)) := by
  refine r_ixT ?_
  unfold unitR
  rw [List.map_map, List.getElem?_map, List.getElem?_range hk]
  rfl
theorem free_lt {S : List Row} {n k : Nat} (h : k ∈ freeR S n) : k < n := List.mem_range.mp (List.mem_filter.mp h).1
theorem beside_ok {mf : Nat} {S : List Row} {n b : Nat} (hn : n ≤ 256) (hS : Rws n b S) (hb : 2 ^ n * (b + 1) ≤ 8802) (eS : spaceR S n = S) : G_beside mf (.tup (S.map rw)) (.int (n : Nat)) = .ok (.tup ((besideR S n).map rw)) := by
  unfold G_beside
  rw [(unit_table_ok (by omega)).1, Res.ok_bind, free_ok hn hS hb eS, Res.ok_bind, r_itT, Res.ok_bind]
  refine bd_ok (mapR_eq (g := fun k => rw (unitRow n k)) (fun k hk => by rw [unit_ix (free_lt hk)]; rfl) (Nat.le_trans (List.length_filter_le _ _) (by rw [List.length_range]; omega))) ?_
  unfold besideR
  rw [List.map_map]
  rfl
theorem free_pw (S : List Row) (n : Nat) : (freeR S n).Pairwise (· < ·) := List.Pairwise.sublist List.filter_sublist List.pairwise_lt_range
theorem beside_bd {S : List Row} {n : Nat} (hn : n ≤ 1000) : Rws n 1 (besideR S n) := ⟨by
  unfold besideR freeR
  rw [List.length_map]
  exact Nat.le_trans (List.length_filter_le _ _) (by rw [List.length_range]; exact hn), fun r hr => by
  obtain ⟨k, hk, rfl⟩ := List.mem_map.mp hr
  exact (unit_bd n hn).2 _ (List.mem_map.mpr ⟨k, List.mem_range.mpr (free_lt hk), rfl⟩)⟩
theorem beside_fix (S : List Row) (n : Nat) : spaceR (besideR S n) n = besideR S n := (units_lst (free_pw S n) fun k hk => free_lt hk).fix
theorem free_len {n : Nat} {S : List Row} (h : Red n S) : S.length + (besideR S n).length = n := by
  have e1 : ((List.range n).filter fun k => decide (k ∈ S.map leadR)).length = S.length := by
    have hp : ((List.range n).filter fun k => decide (k ∈ S.map leadR)).Pairwise (· < ·) := List.Pairwise.sublist List.filter_sublist List.pairwise_lt_range
    have s1 := sub_sorted hp h.leads fun k hk => of_decide_eq_true (List.mem_filter.mp hk).2
    have s2 := sub_sorted h.leads hp fun k hk => by
      refine List.mem_filter.mpr ⟨?_, decide_eq_true hk⟩
      obtain ⟨r, hr, rfl⟩ := List.mem_map.mp hk
      exact List.mem_range.mpr (h.lt r hr)
    have := s1.length_le
    have := s2.length_le
    rw [List.length_map] at *
    omega
  have e2 : ∀ (L : List Nat) (p : Nat → Bool), (L.filter p).length + (L.filter fun k => !p k).length = L.length := fun L p => by
    induction L with
    | nil => rfl
    | cons x L ih =>
      cases hp : p x with
      | true =>
        rw [List.filter_cons_of_pos hp, List.filter_cons_of_neg (by rw [hp]; exact Bool.false_ne_true), List.length_cons, List.length_cons]
        omega
      | false =>
        rw [List.filter_cons_of_neg (by rw [hp]; exact Bool.false_ne_true), List.filter_cons_of_pos (by rw [hp]; rfl), List.length_cons, List.length_cons]
        omega
  have e3 := e2 (List.range n) fun k => decide (k ∈ S.map leadR)
  rw [e1, List.length_range] at e3
  unfold besideR freeR
  rw [List.length_map]
  have e4 : (fun k => decide (k ∉ S.map leadR)) = fun k => !decide (k ∈ S.map leadR) := by funext k; rw [decide_not]
  rw [e4]
  exact e3
/-- a space and what stands beside make all rows -/
theorem beside_all {n : Nat} {S : List Row} (h : Red n S) {x : Row} (hx : x.length = n) : Sp n (S ++ besideR S n) x := by
  have q := h.rest hx
  refine q.fro.trans fun z hz => ?_
  rcases List.mem_cons.mp hz with rfl | hz
  · refine (units_span (free_pw S n) (fun k hk => free_lt hk) q.len fun j hj hnj => ?_).mono fun w hw => List.mem_append.mpr (.inr hw)
    have : j ∈ S.map leadR := Classical.byContradiction fun hc => hnj (List.mem_filter.mpr ⟨List.mem_range.mpr hj, decide_eq_true hc⟩)
    obtain ⟨r, hr, rfl⟩ := List.mem_map.mp this
    exact q.off r hr
  · exact .mem (List.mem_append.mpr (.inl hz))
theorem beside_rank {n : Nat} {S : List Row} (h : Red n S) : (spaceR (S ++ besideR S n) n).length = S.length + (besideR S n).length := by
  have hl : ∀ r ∈ S ++ besideR S n, r.length = n := fun r hr => by
    rcases List.mem_append.mp hr with hr | hr
    · exact h.len r hr
    · obtain ⟨k, _, rfl⟩ := List.mem_map.mp hr
      exact unit_len n k
  have q := space_lst hl
  have q2 : Lst n (unitR n) (unitR n) := units_lst (K := List.range n) List.pairwise_lt_range fun k hk => List.mem_range.mp hk
  have h1 := q2.sub_len q fun v hv => beside_all h (q2.red.len v hv)
  have h2 := q.red.len_le
  have h3 := free_len h
  unfold unitR at h1
  rw [List.length_map, List.length_range] at h1
  omega
/-! ### is_direct -/
theorem extend_ok {xs ys : List D} (h : xs.length + ys.length ≤ 1000000) : rOwn fExtend (.lst xs) [.lst ys] = .ok (.non, .lst (xs ++ ys)) := by
  have : fExtend (.lst xs) [.lst ys] = some (.lst (xs ++ ys), .non) := if_pos (sz (by omega))
  exact rOwn_of this rfl
theorem is_direct_ok {mf : Nat} {S T : List Row} {n b : Nat} (hn : n ≤ 256) (hS : Rws n b S) (hT : Rws n b T) (hl : S.length + T.length ≤ 1000) (hb : 2 ^ n * (b + 1) ≤ 8802) (eS : spaceR S n = S) (eT : spaceR T n = T) :
    G_is_direct mf (.tup [.tup (S.map rw), .tup (T.map rw)]) (.int (n : Nat)) = .ok (.bl (decide ((spaceR (S ++ T) n).length = S.length + T.length))) := by
  have hST : Rws n b (S ++ T) := ⟨by rw [List.length_append]; exact hl, fun r hr => by
    rcases List.mem_append.mp hr with hr | hr
    · exact hS.2 r hr
    · exact hT.2 r hr⟩
  have e1 := extend_ok (xs := []) (ys := S.map rw) (by rw [List.length_nil, List.length_map]; omega)
  have e2 := extend_ok (xs := S.map rw) (ys := T.map rw) (by rw [List.length_map, List.length_map]; omega)
  rw [← List.map_append] at e2
  unfold G_is_direct
  rw [r_lst0, Res.ok_bind, r_itT, Res.ok_bind, forR, check_space_ok hn hS hb eS, Res.ok_bind, lR_l, r_lstT, Res.ok_bind, e1, Res.ok_bind, Res.ok_bind, forR, check_space_ok hn hT hb eT, Res.ok_bind]
  show ((Res.bind (lR (D.lst (S.map rw)) ((rN fLstOf [.tup (T.map rw)]).bind fun d28 => (rOwn fExtend (D.lst (S.map rw)) [d28]).bind fun p30 => .ok p30.2)) _).bind _) = _
  rw [lR_l, r_lstT, Res.ok_bind, e2, Res.ok_bind, Res.ok_bind]
  show ((Res.bind (G_rank_of mf (.lst ((S ++ T).map rw)) (.int (n : Nat))) _)) = _
  rw [rank_of_ok hn rfl hST hb, Res.ok_bind]
  show ((Res.bind (rN fLen [.lst ((S ++ T).map rw)]) _)) = _
  rw [r_lenL, Res.ok_bind, r_eqv, nat_eq, List.length_map, List.length_append]
  rfl
end SP

/-! SP: bent values. -/
namespace SP
open PySem PySem.Spec PyProof.Rows L2 MM
theorem and_comm_d {a b : Bool} : (a && b) = (b && a) := Bool.and_comm a b
/-- a row, as the law asks -/
theorem lawrow_ok {x : D} (n : Nat) (h : okI x = true) : ((rN fIsi [x, (D.ty .tuple)]).bind fun d231 =>
(andG d231 (D.bl false) ((rN fLen [x]).bind fun d265 =>
(r2 (cmp cEq) d265 (.int (n : Nat))).bind fun d266 =>
(andG d266 (D.bl false) ((rL itS x).bind fun l281 =>
(mapR (fun x286 =>
(G__law_is_whole x286).bind fun d290 =>
.ok d290) l281).bind fun l292 =>
(rN fAll [(D.lst l292)]).bind fun d294 =>
.ok d294)).bind fun d295 =>
.ok d295)).bind fun d298 =>
.ok d298) = .ok (.bl (isRowD x && lenB x n)) := by
  have hp : plainD x = true := by unfold okI at h; rw [Bool.and_eq_true] at h; exact h.1
  have nt : (∀ xs, x ≠ .tup xs) → isRowD x = false := fun hn => by
    cases x with
    | tup xs => exact absurd rfl (hn xs)
    | _ => rfl
  cases x with
  | tup ys =>
    unfold okI at h
    simp only [Bool.and_eq_true, decide_eq_true_eq, List.all_eq_true] at h
    obtain ⟨_, hl, hy⟩ := h
    have e0 : rN fIsi [.tup ys, .ty .tuple] = .ok (.bl true) := rfl
    have em : mapR (fun x286 => (G__law_is_whole x286).bind fun d290 => .ok d290) ys = .ok (ys.map fun y => D.bl (isIntD y)) := mapR_id (fun y hm => by rw [is_whole_ok y (hy y hm)]; rfl) (by omega)
    refine bd_ok e0 ?_
    refine bd_ok (a := .bl (isRowD (.tup ys) && lenB (.tup ys) n)) ?_ rfl
    rw [andG_t]
    refine bd_ok (r_lenT _) (bd_ok (r_eqv _ _) ?_)
    rw [nat_eq]
    refine bd_ok (and_d (b := ys.all isIntD) fun _ => ?_) ?_
    · exact bd_ok (r_itT _) (bd_ok em (bd_ok (r_all isIntD ys) rfl))
    · show Res.ok (D.bl (decide (ys.length = n) && ys.all isIntD)) = Res.ok (D.bl (ys.all isIntD && (ys.length == n)))
      rw [Bool.and_comm]
      rfl
  | non => rfl
  | bl b => rfl
  | int i => rfl
  | str s => rfl
  | lst xs => rfl
  | _ => cases hp
theorem okD_its {d : D} {xs : List D} (h : okD d = true) (hd : itS d = some xs) : xs.length ≤ 1000000 ∧ ∀ x ∈ xs, okI x = true := by
  unfold okD at h
  rw [hd] at h
  rw [Bool.and_eq_true] at h
  have h2 := h.2
  have h2 : (decide (xs.length ≤ 1000000) && xs.all okI) = true := h2
  rw [Bool.and_eq_true, decide_eq_true_eq, List.all_eq_true] at h2
  exact h2
theorem lawrows_ok {d : D} {xs : List D} (n : Nat) (h : okD d = true) (hd : itS d = some xs) : mapR (fun x => (rN fIsi [x, (D.ty .tuple)]).bind fun d231 =>
(andG d231 (D.bl false) ((rN fLen [x]).bind fun d265 =>
(r2 (cmp cEq) d265 (.int (n : Nat))).bind fun d266 =>
(andG d266 (D.bl false) ((rL itS x).bind fun l281 =>
(mapR (fun x286 =>
(G__law_is_whole x286).bind fun d290 =>
.ok d290) l281).bind fun l292 =>
(rN fAll [(D.lst l292)]).bind fun d294 =>
.ok d294)).bind fun d295 =>
.ok d295)).bind fun d298 =>
.ok d298) xs = .ok (xs.map fun x => D.bl (isRowD x && lenB x n)) ∧ (xs.all fun x => isRowD x && lenB x n) = isRowsD d n := by
  obtain ⟨hl, hx⟩ := okD_its h hd
  refine ⟨mapR_id (fun x hm => lawrow_ok n (hx x hm)) (by omega), ?_⟩
  unfold isRowsD
  rw [hd]
/-- .. of what are no rows -/
theorem law_space_bad {d : D} {xs : List D} {n : Nat} (h : okD d = true) (hd : d = .tup xs) (hr : isRowsD d n = false) : G__law_is_space d (.int (n : Nat)) = .ok (.bl false) := by
  subst hd
  obtain ⟨e1, e2⟩ := lawrows_ok n h rfl
  unfold G__law_is_space
  have e0 : rN fIsi [.tup xs, .ty .tuple] = .ok (.bl true) := rfl
  refine bd_ok e0 (bd_ok (r_trub _) (bd_ok (a := true) (or_b (a := false) (b := true) fun _ => ?_) rfl))
  refine bd_ok (r_itT _) (bd_ok e1 (bd_ok (r_all _ xs) ?_))
  rw [e2, hr]
  rfl
/-- what check_space raises -/
def notSp (mf : Nat) (d : D) (n : Nat) : Prop := G_is_space mf d (.int (n : Nat)) = .ok (.bl false)
theorem within_bad {mf : Nat} {x : Row} {d : D} {n : Nat} (hn : n ≤ 256) (hx : x.length = n) (h : notSp mf d n) : G_is_within mf (rw x) d (.int (n : Nat)) = .ex ⟨mf, none⟩ := by
  unfold G_is_within
  refine bd_ok (check_row_ok (by omega) hx) ?_
  exact bind_ex (check_space_bad hn h)
theorem part_bad1 {mf : Nat} {d e : D} {n : Nat} (hn : n ≤ 256) (h : notSp mf d n) : G_is_part mf d e (.int (n : Nat)) = .ex ⟨mf, none⟩ := by
  unfold G_is_part
  exact bind_ex (check_space_bad hn h)
theorem part_bad2 {mf : Nat} {d e : D} {n : Nat} (hn : n ≤ 256) (he : G_check_space mf e (.int (n : Nat)) = .ok .non) (h : notSp mf d n) : G_is_part mf e d (.int (n : Nat)) = .ex ⟨mf, none⟩ := by
  unfold G_is_part
  exact bd_ok he (bind_ex (check_space_bad hn h))
theorem free_bad {mf : Nat} {d : D} {n : Nat} (hn : n ≤ 256) (h : notSp mf d n) : G_free_places mf d (.int (n : Nat)) = .ex ⟨mf, none⟩ := by
  unfold G_free_places
  exact bind_ex (check_space_bad hn h)
theorem beside_bad {mf : Nat} {d : D} {n : Nat} (hn : n ≤ 256) (h : notSp mf d n) : G_beside mf d (.int (n : Nat)) = .ex ⟨mf, none⟩ := by
  unfold G_beside
  exact bd_ok (unit_table_ok (by omega)).1 (bind_ex (free_bad hn h))
theorem direct_bad {mf : Nat} {S : List Row} {d : D} {n : Nat} (hn : n ≤ 256) (hl : S.length ≤ 1000) (hs : G_check_space mf (.tup (S.map rw)) (.int (n : Nat)) = .ok .non) (h : notSp mf d n) : G_is_direct mf (.tup [.tup (S.map rw), d]) (.int (n : Nat)) = .ex ⟨mf, none⟩ := by
  have e1 := extend_ok (xs := []) (ys := S.map rw) (by rw [List.length_nil, List.length_map]; omega)
  unfold G_is_direct
  refine bd_ok r_lst0 (bd_ok (r_itT _) (bind_ex ?_))
  rw [forR]
  refine bd_ok (a := .lst (S.map rw)) ?_ ?_
  · refine bd_ok hs ?_
    rw [lR_l]
    exact bd_ok (r_lstT _) (bd_ok e1 rfl)
  · rw [forR]
    exact bind_ex (bind_ex (check_space_bad hn h))
theorem rank_bad {mf : Nat} {d : D} {n : Nat} (hn : n ≤ 256) (h : okD d = true) (hr : isRowsD d n = false) : G_rank_of mf d (.int (n : Nat)) = .ex ⟨mf, none⟩ := by
  unfold G_rank_of
  exact bind_ex (space_bad hn h hr)
end SP

/-! Printed by gen.py: what the linked text's defs compute. -/
namespace K03
open PySem PySem.Spec PyProof.Rows L2 MM
def topS (i : Nat) : Stmt := PySem.Challenge.pw_bracketroads_k03_whole_least_rows.main.body.getD i (.Pass ⟨0, 0, 0, 0⟩)
def nms : List Str := ((["Fault", "Malformed", "Refused", "is_integer", "is_row", "check_from", "check_row", "common", "common_of", "unit_table", "is_rows", "check_rows", "slim", "lead_of", "cleared", "space_of", "is_space", "check_space", "is_within", "rest_of", "is_part", "whole_space", "rank_of", "free_places", "beside", "is_direct", "_law_state", "_law_take", "_law_says", "_law_is_whole"] : List Str) ++ (["_law_same", "_law_told", "_law_all_malformed", "_law_common", "_law_unit", "_law_slim", "_law_least", "_law_rank", "_law_within", "_law_number", "_law_row", "_law_lead", "_law_is_space", "_law_drawn_rows", "law"] : List Str))
def faOf (K : PySem.W.Frag) (i : Nat) : Addr := He.ga K (nms.getD i "")
abbrev CC (K : PySem.W.Frag) : MM.Ctx := ⟨K, faOf K⟩
abbrev FnP (K : PySem.W.Frag) (x : Str) (st : Stmt) (f : Addr) : Prop := ∃ fd, FunD K x x (defArgs st) (defBody st) (defScope st) [] [] f fd
abbrev s_is_integer : Stmt := topS 5
theorem sc_is_integer : FnScope ["value"] ["value"] (defScope s_is_integer) := ⟨rfl, rfl, rfl, by decide +kernel, rfl, by decide +kernel, by decide +kernel⟩
abbrev s_common : Stmt := topS 9
theorem sc_common : FnScope ["a", "b"] ["a", "b"] (defScope s_common) := ⟨rfl, rfl, rfl, by decide +kernel, rfl, by decide +kernel, by decide +kernel⟩
abbrev s_unit_table : Stmt := topS 12
theorem sc_unit_table : FnScope ["n", "i", "j"] ["n"] (defScope s_unit_table) := ⟨rfl, rfl, rfl, by decide +kernel, rfl, by decide +kernel, by decide +kernel⟩
abbrev s_lead_of : Stmt := topS 18
theorem sc_lead_of : FnScope ["row", "k", "c"] ["row"] (defScope s_lead_of) := ⟨rfl, rfl, rfl, by decide +kernel, rfl, by decide +kernel, by decide +kernel⟩
abbrev s__law_state : Stmt := topS 32
theorem sc__law_state : FnScope ["script", "seed", "total", "cell"] ["script"] (defScope s__law_state) := ⟨rfl, rfl, rfl, by decide +kernel, rfl, by decide +kernel, by decide +kernel⟩
abbrev s__law_take : Stmt := topS 33
theorem sc__law_take : FnScope ["state", "m", "value"] ["state", "m"] (defScope s__law_take) := ⟨rfl, rfl, rfl, by decide +kernel, rfl, by decide +kernel, by decide +kernel⟩
abbrev s__law_says : Stmt := topS 34
theorem sc__law_says : FnScope ["value", "due"] ["value", "due"] (defScope s__law_says) := ⟨rfl, rfl, rfl, by decide +kernel, rfl, by decide +kernel, by decide +kernel⟩
abbrev s__law_is_whole : Stmt := topS 35
theorem sc__law_is_whole : FnScope ["value"] ["value"] (defScope s__law_is_whole) := ⟨rfl, rfl, rfl, by decide +kernel, rfl, by decide +kernel, by decide +kernel⟩
abbrev s__law_common : Stmt := topS 39
theorem sc__law_common : FnScope ["a", "b"] ["a", "b"] (defScope s__law_common) := ⟨rfl, rfl, rfl, by decide +kernel, rfl, by decide +kernel, by decide +kernel⟩
abbrev s__law_unit : Stmt := topS 40
theorem sc__law_unit : FnScope ["n", "i", "j"] ["n"] (defScope s__law_unit) := ⟨rfl, rfl, rfl, by decide +kernel, rfl, by decide +kernel, by decide +kernel⟩
abbrev s__law_lead : Stmt := topS 47
theorem sc__law_lead : FnScope ["row", "places", "k"] ["row"] (defScope s__law_lead) := ⟨rfl, rfl, rfl, by decide +kernel, rfl, by decide +kernel, by decide +kernel⟩
abbrev s_is_row : Stmt := topS 6
theorem sc_is_row : FnScope ["value", "c"] ["value"] (defScope s_is_row) := ⟨rfl, rfl, rfl, by decide +kernel, rfl, by decide +kernel, by decide +kernel⟩
abbrev s_check_from : Stmt := topS 7
theorem sc_check_from : FnScope ["n", "low", "high"] ["n", "low", "high"] (defScope s_check_from) := ⟨rfl, rfl, rfl, by decide +kernel, rfl, by decide +kernel, by decide +kernel⟩
abbrev s_common_of : Stmt := topS 10
theorem sc_common_of : FnScope ["row", "found", "c"] ["row"] (defScope s_common_of) := ⟨rfl, rfl, rfl, by decide +kernel, rfl, by decide +kernel, by decide +kernel⟩
abbrev s_whole_space : Stmt := topS 26
theorem sc_whole_space : FnScope ["n"] ["n"] (defScope s_whole_space) := ⟨rfl, rfl, rfl, by decide +kernel, rfl, by decide +kernel, by decide +kernel⟩
abbrev s__law_slim : Stmt := topS 41
theorem sc__law_slim : FnScope ["row", "g", "c", "first"] ["row"] (defScope s__law_slim) := ⟨rfl, rfl, rfl, by decide +kernel, rfl, by decide +kernel, by decide +kernel⟩
abbrev s__law_number : Stmt := topS 45
theorem sc__law_number : FnScope ["state"] ["state"] (defScope s__law_number) := ⟨rfl, rfl, rfl, by decide +kernel, rfl, by decide +kernel, by decide +kernel⟩
abbrev s_check_row : Stmt := topS 8
theorem sc_check_row : FnScope ["value", "n"] ["value", "n"] (defScope s_check_row) := ⟨rfl, rfl, rfl, by decide +kernel, rfl, by decide +kernel, by decide +kernel⟩
abbrev s_is_rows : Stmt := topS 15
theorem sc_is_rows : FnScope ["value", "n", "row"] ["value", "n"] (defScope s_is_rows) := ⟨rfl, rfl, rfl, by decide +kernel, rfl, by decide +kernel, by decide +kernel⟩
abbrev s_slim : Stmt := topS 17
theorem sc_slim : FnScope ["row", "g", "lead", "c"] ["row"] (defScope s_slim) := ⟨rfl, rfl, rfl, by decide +kernel, rfl, by decide +kernel, by decide +kernel⟩
abbrev s__law_least : Stmt := topS 42
theorem sc__law_least : FnScope ["rows", "n", "left", "found", "k", "good", "lead", "row", "j"] ["rows", "n"] (defScope s__law_least) := ⟨rfl, rfl, rfl, by decide +kernel, rfl, by decide +kernel, by decide +kernel⟩
abbrev s__law_row : Stmt := topS 46
theorem sc__law_row : FnScope ["state", "n", "k"] ["state", "n"] (defScope s__law_row) := ⟨rfl, rfl, rfl, by decide +kernel, rfl, by decide +kernel, by decide +kernel⟩
abbrev s__law_is_space : Stmt := topS 48
theorem sc__law_is_space : FnScope ["value", "n", "leads", "k", "row", "i", "c"] ["value", "n"] (defScope s__law_is_space) := ⟨rfl, rfl, rfl, by decide +kernel, rfl, by decide +kernel, by decide +kernel⟩
abbrev s_check_rows : Stmt := topS 16
theorem sc_check_rows : FnScope ["value", "n"] ["value", "n"] (defScope s_check_rows) := ⟨rfl, rfl, rfl, by decide +kernel, rfl, by decide +kernel, by decide +kernel⟩
abbrev s_cleared : Stmt := topS 19
theorem sc_cleared : FnScope ["row", "lead", "k", "a", "b", "x", "y"] ["row", "lead", "k"] (defScope s_cleared) := ⟨rfl, rfl, rfl, by decide +kernel, rfl, by decide +kernel, by decide +kernel⟩
abbrev s__law_rank : Stmt := topS 43
theorem sc__law_rank : FnScope ["rows", "n"] ["rows", "n"] (defScope s__law_rank) := ⟨rfl, rfl, rfl, by decide +kernel, rfl, by decide +kernel, by decide +kernel⟩
abbrev s__law_drawn_rows : Stmt := topS 49
theorem sc__law_drawn_rows : FnScope ["state", "n", "rows", "k"] ["state", "n"] (defScope s__law_drawn_rows) := ⟨rfl, rfl, rfl, by decide +kernel, rfl, by decide +kernel, by decide +kernel⟩
abbrev s_space_of : Stmt := topS 20
theorem sc_space_of : FnScope ["rows", "n", "left", "found", "k", "good", "lead", "row", "i"] ["rows", "n"] (defScope s_space_of) := ⟨rfl, rfl, rfl, by decide +kernel, rfl, by decide +kernel, by decide +kernel⟩
abbrev s_rest_of : Stmt := topS 24
theorem sc_rest_of : FnScope ["row", "space", "own", "lead"] ["row", "space"] (defScope s_rest_of) := ⟨rfl, rfl, rfl, by decide +kernel, rfl, by decide +kernel, by decide +kernel⟩
abbrev s__law_within : Stmt := topS 44
theorem sc__law_within : FnScope ["row", "rows", "n"] ["row", "rows", "n"] (defScope s__law_within) := ⟨rfl, rfl, rfl, by decide +kernel, rfl, by decide +kernel, by decide +kernel⟩
abbrev s_is_space : Stmt := topS 21
theorem sc_is_space : FnScope ["value", "n"] ["value", "n"] (defScope s_is_space) := ⟨rfl, rfl, rfl, by decide +kernel, rfl, by decide +kernel, by decide +kernel⟩
abbrev s_rank_of : Stmt := topS 27
theorem sc_rank_of : FnScope ["rows", "n"] ["rows", "n"] (defScope s_rank_of) := ⟨rfl, rfl, rfl, by decide +kernel, rfl, by decide +kernel, by decide +kernel⟩
abbrev s_check_space : Stmt := topS 22
theorem sc_check_space : FnScope ["value", "n"] ["value", "n"] (defScope s_check_space) := ⟨rfl, rfl, rfl, by decide +kernel, rfl, by decide +kernel, by decide +kernel⟩
abbrev s_is_within : Stmt := topS 23
theorem sc_is_within : FnScope ["row", "space", "n"] ["row", "space", "n"] (defScope s_is_within) := ⟨rfl, rfl, rfl, by decide +kernel, rfl, by decide +kernel, by decide +kernel⟩
abbrev s_is_part : Stmt := topS 25
theorem sc_is_part : FnScope ["one", "two", "n", "row"] ["one", "two", "n"] (defScope s_is_part) := ⟨rfl, rfl, rfl, by decide +kernel, rfl, by decide +kernel, by decide +kernel⟩
abbrev s_free_places : Stmt := topS 28
theorem sc_free_places : FnScope ["space", "n", "leads", "row", "k"] ["space", "n"] (defScope s_free_places) := ⟨rfl, rfl, rfl, by decide +kernel, rfl, by decide +kernel, by decide +kernel⟩
abbrev s_is_direct : Stmt := topS 30
theorem sc_is_direct : FnScope ["spaces", "n", "rows", "space"] ["spaces", "n"] (defScope s_is_direct) := ⟨rfl, rfl, rfl, by decide +kernel, rfl, by decide +kernel, by decide +kernel⟩
abbrev s_beside : Stmt := topS 29
theorem sc_beside : FnScope ["space", "n", "units", "k"] ["space", "n"] (defScope s_beside) := ⟨rfl, rfl, rfl, by decide +kernel, rfl, by decide +kernel, by decide +kernel⟩
abbrev s__law_told : Stmt := topS 37
theorem sc__law_told : FnScope ["act", "given", "refused"] ["act", "given"] (defScope s__law_told) := ⟨rfl, rfl, rfl, by decide +kernel, rfl, by decide +kernel, by decide +kernel⟩
abbrev s__law_same : Stmt := topS 36
theorem sc__law_same : FnScope ["one", "two", "k"] ["one", "two"] (defScope s__law_same) := ⟨rfl, rfl, rfl, by decide +kernel, rfl, by decide +kernel, by decide +kernel⟩
abbrev s__law_all_malformed : Stmt := topS 38
theorem sc__law_all_malformed : FnScope ["tried", "act", "given"] ["tried"] (defScope s__law_all_malformed) := ⟨rfl, rfl, rfl, by decide +kernel, rfl, by decide +kernel, by decide +kernel⟩
abbrev s_law : Stmt := topS 50
theorem sc_law : FnScope ["script", "state", "n", "rows", "others", "told", "other", "row", "own", "inside", "rest", "leads", "free", "wide", "value", "plain", "tried", "loose", "low", "k", "c"] ["script"] (defScope s_law) := ⟨rfl, rfl, rfl, by decide +kernel, rfl, by decide +kernel, by decide +kernel⟩
/-- an exception class of the text -/
structure XF (K : PySem.W.Frag) (C : Addr) : Prop where
  e : PySem.W.excIn K C PySem.HandSPX.veTail "ValueError.__new__" = true ∧ PySem.W.keepIn K (.ref C) = true ∧ PySem.W.subIn K (.ref C) (.type "BaseException") = some true ∧ PySem.W.typeIn K (.ref C) = some (.type "type")
theorem XF.raises {X : Cx} {C : Addr} (x : XF X.K C) : Raises X (.ref C) := raises_own x.e.2.2.1 x.e.2.2.2
/-- which class is under which -/
def sub (i j : Nat) : Option Bool := match i, j with
  | 0, 0 => some true
  | 0, 1 => some false
  | 0, 2 => some false
  | 1, 0 => some true
  | 1, 1 => some true
  | 1, 2 => some false
  | 2, 0 => some true
  | 2, 1 => some false
  | 2, 2 => some true
  | _, _ => none
structure Txt (K : PySem.W.Frag) (mg : Str → Option Value) : Prop where
  f_is_integer : FnP K "is_integer" s_is_integer (faOf K 3)
  f_is_row : FnP K "is_row" s_is_row (faOf K 4)
  f_check_from : FnP K "check_from" s_check_from (faOf K 5)
  f_check_row : FnP K "check_row" s_check_row (faOf K 6)
  f_common : FnP K "common" s_common (faOf K 7)
  f_common_of : FnP K "common_of" s_common_of (faOf K 8)
  f_unit_table : FnP K "unit_table" s_unit_table (faOf K 9)
  f_is_rows : FnP K "is_rows" s_is_rows (faOf K 10)
  f_check_rows : FnP K "check_rows" s_check_rows (faOf K 11)
  f_slim : FnP K "slim" s_slim (faOf K 12)
  f_lead_of : FnP K "lead_of" s_lead_of (faOf K 13)
  f_cleared : FnP K "cleared" s_cleared (faOf K 14)
  f_space_of : FnP K "space_of" s_space_of (faOf K 15)
  f_is_space : FnP K "is_space" s_is_space (faOf K 16)
  f_check_space : FnP K "check_space" s_check_space (faOf K 17)
  f_is_within : FnP K "is_within" s_is_within (faOf K 18)
  f_rest_of : FnP K "rest_of" s_rest_of (faOf K 19)
  f_is_part : FnP K "is_part" s_is_part (faOf K 20)
  f_whole_space : FnP K "whole_space" s_whole_space (faOf K 21)
  f_rank_of : FnP K "rank_of" s_rank_of (faOf K 22)
  f_free_places : FnP K "free_places" s_free_places (faOf K 23)
  f_beside : FnP K "beside" s_beside (faOf K 24)
  f_is_direct : FnP K "is_direct" s_is_direct (faOf K 25)
  f__law_state : FnP K "_law_state" s__law_state (faOf K 26)
  f__law_take : FnP K "_law_take" s__law_take (faOf K 27)
  f__law_says : FnP K "_law_says" s__law_says (faOf K 28)
  f__law_is_whole : FnP K "_law_is_whole" s__law_is_whole (faOf K 29)
  f__law_same : FnP K "_law_same" s__law_same (faOf K 30)
  f__law_told : FnP K "_law_told" s__law_told (faOf K 31)
  f__law_all_malformed : FnP K "_law_all_malformed" s__law_all_malformed (faOf K 32)
  f__law_common : FnP K "_law_common" s__law_common (faOf K 33)
  f__law_unit : FnP K "_law_unit" s__law_unit (faOf K 34)
  f__law_slim : FnP K "_law_slim" s__law_slim (faOf K 35)
  f__law_least : FnP K "_law_least" s__law_least (faOf K 36)
  f__law_rank : FnP K "_law_rank" s__law_rank (faOf K 37)
  f__law_within : FnP K "_law_within" s__law_within (faOf K 38)
  f__law_number : FnP K "_law_number" s__law_number (faOf K 39)
  f__law_row : FnP K "_law_row" s__law_row (faOf K 40)
  f__law_lead : FnP K "_law_lead" s__law_lead (faOf K 41)
  f__law_is_space : FnP K "_law_is_space" s__law_is_space (faOf K 42)
  f__law_drawn_rows : FnP K "_law_drawn_rows" s__law_drawn_rows (faOf K 43)
  f_law : FnP K "law" s_law (faOf K 44)
  g_Fault : mg "Fault" = some (.ref (faOf K 0))
  g_Malformed : mg "Malformed" = some (.ref (faOf K 1))
  g_Refused : mg "Refused" = some (.ref (faOf K 2))
  g_is_integer : mg "is_integer" = some (.ref (faOf K 3))
  g_is_row : mg "is_row" = some (.ref (faOf K 4))
  g_check_from : mg "check_from" = some (.ref (faOf K 5))
  g_check_row : mg "check_row" = some (.ref (faOf K 6))
  g_common : mg "common" = some (.ref (faOf K 7))
  g_common_of : mg "common_of" = some (.ref (faOf K 8))
  g_unit_table : mg "unit_table" = some (.ref (faOf K 9))
  g_is_rows : mg "is_rows" = some (.ref (faOf K 10))
  g_check_rows : mg "check_rows" = some (.ref (faOf K 11))
  g_slim : mg "slim" = some (.ref (faOf K 12))
  g_lead_of : mg "lead_of" = some (.ref (faOf K 13))
  g_cleared : mg "cleared" = some (.ref (faOf K 14))
  g_space_of : mg "space_of" = some (.ref (faOf K 15))
  g_is_space : mg "is_space" = some (.ref (faOf K 16))
  g_check_space : mg "check_space" = some (.ref (faOf K 17))
  g_is_within : mg "is_within" = some (.ref (faOf K 18))
  g_rest_of : mg "rest_of" = some (.ref (faOf K 19))
  g_is_part : mg "is_part" = some (.ref (faOf K 20))
  g_whole_space : mg "whole_space" = some (.ref (faOf K 21))
  g_rank_of : mg "rank_of" = some (.ref (faOf K 22))
  g_free_places : mg "free_places" = some (.ref (faOf K 23))
  g_beside : mg "beside" = some (.ref (faOf K 24))
  g_is_direct : mg "is_direct" = some (.ref (faOf K 25))
  g__law_state : mg "_law_state" = some (.ref (faOf K 26))
  g__law_take : mg "_law_take" = some (.ref (faOf K 27))
  g__law_says : mg "_law_says" = some (.ref (faOf K 28))
  g__law_is_whole : mg "_law_is_whole" = some (.ref (faOf K 29))
  g__law_same : mg "_law_same" = some (.ref (faOf K 30))
  g__law_told : mg "_law_told" = some (.ref (faOf K 31))
  g__law_all_malformed : mg "_law_all_malformed" = some (.ref (faOf K 32))
  g__law_common : mg "_law_common" = some (.ref (faOf K 33))
  g__law_unit : mg "_law_unit" = some (.ref (faOf K 34))
  g__law_slim : mg "_law_slim" = some (.ref (faOf K 35))
  g__law_least : mg "_law_least" = some (.ref (faOf K 36))
  g__law_rank : mg "_law_rank" = some (.ref (faOf K 37))
  g__law_within : mg "_law_within" = some (.ref (faOf K 38))
  g__law_number : mg "_law_number" = some (.ref (faOf K 39))
  g__law_row : mg "_law_row" = some (.ref (faOf K 40))
  g__law_lead : mg "_law_lead" = some (.ref (faOf K 41))
  g__law_is_space : mg "_law_is_space" = some (.ref (faOf K 42))
  g__law_drawn_rows : mg "_law_drawn_rows" = some (.ref (faOf K 43))
  g_law : mg "law" = some (.ref (faOf K 44))
  z_abs : mg "abs" = none
  z_all : mg "all" = none
  z_bool : mg "bool" = none
  z_enumerate : mg "enumerate" = none
  z_int : mg "int" = none
  z_isinstance : mg "isinstance" = none
  z_len : mg "len" = none
  z_list : mg "list" = none
  z_range : mg "range" = none
  z_str : mg "str" = none
  z_tuple : mg "tuple" = none
  z_zip : mg "zip" = none
  x_Fault : XF K (faOf K 0)
  x_Malformed : XF K (faOf K 1)
  k_MOST_WIDE : ∃ t, mg "MOST_WIDE" = some (.int 256 t)
  sub : ∀ i j b, sub i j = some b → PySem.W.exmOne K (.ref (faOf K i)) (.ref (faOf K j)) = some b
section
variable {P : Program} {w : World} {K : PySem.W.Frag} {mg : Str → Option Value} {base : Heap}
def m_is_integer : M Fl := sRet (eAnd (eN fIsi (aCons (eV 0) (aCons (eC (.ty .int)) (aNil)))) (eNot (eN fIsi (aCons (eV 0) (aCons (eC (.ty .bool)) (aNil))))))
def f_is_integer : List D → FO := mFn 1 m_is_integer
theorem ok_is_integer (T : Txt K mg) : Good (CC K) P w K mg base 1 3 1 (f_is_integer) := by
  obtain ⟨fd, F⟩ := T.f_is_integer
  exact ⟨fd, ["value"], fn_ok F sc_is_integer (fun cdv A outer s H E B hr => (ms_one (ms_ret (me_and (me_callB call_isi (n_isi rfl) (by rfl) T.z_isinstance (by decide +kernel) (ma_cons (me_var 0) (ma_cons (me_ty .int (by rfl) T.z_int (by decide +kernel)) ma_nil))) (me_one (me_not (me_callB call_isi (n_isi rfl) (by rfl) T.z_isinstance (by decide +kernel) (ma_cons (me_var 0) (ma_cons (me_ty .bool (by rfl) T.z_bool (by decide +kernel)) ma_nil))))))))), F.kp, F.bindsN fun _ _ _ _ _ _ us hl => match us, hl with | [_], _ => rfl⟩
def m_common : M Fl := sSeq (sPar 0 1 (aCons (eN fAbs (aCons (eV 0) (aNil))) (aCons (eN fAbs (aCons (eV 1) (aNil))) (aNil))))
      (sSeq (whL (t2 cNe (eV 1) (eC (.int 0)))
      (sPar 0 1 (aCons (eV 1) (aCons (e2 fMod (eV 0) (eV 1)) (aNil)))) 1000000000)
      (sRet (eGive 0)))
def f_common : List D → FO := mFn 2 m_common
theorem ok_common (T : Txt K mg) : Good (CC K) P w K mg base 1 7 2 (f_common) := by
  obtain ⟨fd, F⟩ := T.f_common
  exact ⟨fd, ["a", "b"], fn_ok F sc_common (fun cdv A outer s H E B hr => (ms_cons (ms_par (i := 0) (j := 1) rfl sc_common.nd rfl rfl (by decide) rfl rfl (ma_cons (me_callB call_abs n_abs (by rfl) T.z_abs (by decide +kernel) (ma_cons (me_var 0) ma_nil)) (ma_cons (me_callB call_abs n_abs (by rfl) T.z_abs (by decide +kernel) (ma_cons (me_var 1) ma_nil)) ma_nil)) (by rfl))
      (ms_cons (ms_while 1000000000 (passes_of rfl) (mt_cmp (op_neD hr.units) (p_ne rfl) (me_var 1) me_int (nomark _)) (ms_one (ms_par (i := 0) (j := 1) rfl sc_common.nd rfl rfl (by decide) rfl rfl (ma_cons (me_var 1) (ma_cons (me_op op_modN p_mod (me_var 0) (me_var 1)) ma_nil)) (by rfl))))
      (ms_one (ms_ret (me_give 0)))))), F.kp, F.bindsN fun _ _ _ _ _ _ us hl => match us, hl with | [_, _], _ => rfl⟩
def m_unit_table : M Fl := sRet (eN fTupOf (aCons (eLc (iN rg1 (aCons (eV 0) (aNil))) (gNm 1) (tTrue) (eN fTupOf (aCons (eLc (iN rg1 (aCons (eV 0) (aNil))) (gNm 2) (tTrue) (eN fInt1 (aCons (e2 (cmp cEq) (eV 1) (eV 2)) (aNil))) [2]) (aNil))) [1]) (aNil)))
def f_unit_table : List D → FO := mFn 3 m_unit_table
theorem ok_unit_table (T : Txt K mg) : Good (CC K) P w K mg base 1 9 1 (f_unit_table) := by
  obtain ⟨fd, F⟩ := T.f_unit_table
  exact ⟨fd, ["n"], fn_ok F sc_unit_table (fun cdv A outer s H E B hr => (ms_one (ms_ret (me_callTy call_tuple_of (n_tupOf rfl) (by rfl) T.z_tuple (by decide +kernel) (ma_cons (me_lc [("i", 1)] rfl sc_unit_table.nd (mi_range1 (by rfl) T.z_range (ma_cons (me_var 0) ma_nil)) (blkOk_by (N := ["n", "i", "j"]) (sc := defScope s_unit_table) (own := [("i", 1)]) (by decide +kernel)) (fun _ _ _ _ _ _ => (mg_name (i := 1) sc_unit_table.nd rfl (by first | exact Or.inl rfl | exact Or.inr rfl))) (fun _ _ _ _ _ _ => mts_nil) (fun _ _ _ _ _ _ => (me_callTy call_tuple_of (n_tupOf rfl) (by rfl) T.z_tuple (by decide +kernel) (ma_cons (me_lc [("j", 2)] rfl sc_unit_table.nd (mi_range1 (by rfl) T.z_range (ma_cons (me_var 0) ma_nil)) (blkOk_1 (N := ["n", "i", "j"]) (sc0 := defScope s_unit_table) (own := [("j", 2)]) rfl (by decide +kernel)) (fun _ _ _ _ _ _ => (mg_name (i := 2) sc_unit_table.nd rfl (by first | exact Or.inl rfl | exact Or.inr rfl))) (fun _ _ _ _ _ _ => mts_nil) (fun _ _ _ _ _ _ => (me_callTy call_int1 n_int1 (by rfl) T.z_int (by decide +kernel) (ma_cons (me_cmp (op_eqD hr.units) (p_eq rfl) (me_var 1) (me_var 2) (nomark _)) ma_nil)))) ma_nil)))) ma_nil))))), F.kp, F.bindsN fun _ _ _ _ _ _ us hl => match us, hl with | [_], _ => rfl⟩
def m_lead_of : M Fl := sSeq (sFor (iN enumD (aCons (eV 0) (aNil))) (gTp 2 (gsCons (gNm 1) (gsCons (gNm 2) (gsNil))))
      (sIf (t2 cNe (eV 2) (eC (.int 0)))
      (sRet (eGive 1)) (sNx)))
      (sRet (eN fLen (aCons (eV 0) (aNil))))
def f_lead_of : List D → FO := mFn 3 m_lead_of
theorem ok_lead_of (T : Txt K mg) : Good (CC K) P w K mg base 1 13 1 (f_lead_of) := by
  obtain ⟨fd, F⟩ := T.f_lead_of
  exact ⟨fd, ["row"], fn_ok F sc_lead_of (fun cdv A outer s H E B hr => (ms_cons (ms_for (passes_of rfl) rfl (mi_enum rfl (by rfl) T.z_enumerate (ma_cons (me_var 0) ma_nil)) (mg_tup rfl rfl (mgs_cons (mg_name (i := 1) sc_lead_of.nd rfl (by first | exact Or.inl rfl | exact Or.inr rfl)) (mgs_cons (mg_name (i := 2) sc_lead_of.nd rfl (by first | exact Or.inl rfl | exact Or.inr rfl)) mgs_nil))) (ms_one (ms_if (mt_cmp (op_neD hr.units) (p_ne rfl) (me_var 2) me_int (nomark _)) (ms_one (ms_ret (me_give 1))) ms_nil)))
      (ms_one (ms_ret (me_callB cr_lenX (n_len rfl) (by rfl) T.z_len (by decide +kernel) (ma_cons (me_var 0) ma_nil)))))), F.kp, F.bindsN fun _ _ _ _ _ _ us hl => match us, hl with | [_], _ => rfl⟩
def m__law_state : M Fl := sSeq (sAsg 1 (eC (.int 0)))
      (sSeq (sAsg 2 (eC (.int 1)))
      (sSeq (sFor (iV itS (eSl (eV 0) none (some (eC (.int 63))))) (gNm 3)
      (sSeq (sAsg 1 (e2 fAdd (e2 fMul (eV 1) (eC (.int 1000003))) (eN fAbs (aCons (eV 3) (aNil)))))
      (sAsg 2 (e2 fMod (eN fInt1 (aCons (e2 fAdd (e2 fMul (eV 2) (eC (.int 48271))) (eV 3)) (aNil))) (eC (.int 2147483647))))))
      (sRet (eN fLst (aCons (eV 1) (aCons (eIf (t2 cNe (eV 2) (eC (.int 1973665155))) (eV 2) (eC (.int 7))) (aNil)))))))
def f__law_state : List D → FO := mFn 4 m__law_state
theorem ok__law_state (T : Txt K mg) : Good (CC K) P w K mg base 1 26 1 (f__law_state) := by
  obtain ⟨fd, F⟩ := T.f__law_state
  exact ⟨fd, ["script"], fn_ok F sc__law_state (fun cdv A outer s H E B hr => (ms_cons (ms_set (i := 1) sc__law_state.nd rfl (by first | exact Or.inl rfl | exact Or.inr rfl) me_int)
      (ms_cons (ms_set (i := 2) sc__law_state.nd rfl (by first | exact Or.inl rfl | exact Or.inr rfl) me_int)
      (ms_cons (ms_for (passes_of rfl) rfl (mi_seq rfl (me_sl rfl (me_var 0) mo_none (mo_some me_int))) (mg_name (i := 3) sc__law_state.nd rfl (by first | exact Or.inl rfl | exact Or.inr rfl)) (ms_cons (ms_set (i := 1) sc__law_state.nd rfl (by first | exact Or.inl rfl | exact Or.inr rfl) (me_op op_addX (p_add rfl) (me_op op_mulA (p_mulA rfl) (me_var 1) me_int) (me_callB call_abs n_abs (by rfl) T.z_abs (by decide +kernel) (ma_cons (me_var 3) ma_nil))))
      (ms_one (ms_set (i := 2) sc__law_state.nd rfl (by first | exact Or.inl rfl | exact Or.inr rfl) (me_op op_modN p_mod (me_callTy call_int1 n_int1 (by rfl) T.z_int (by decide +kernel) (ma_cons (me_op op_addX (p_add rfl) (me_op op_mulA (p_mulA rfl) (me_var 2) me_int) (me_var 3)) ma_nil)) me_int)))))
      (ms_one (ms_ret (me_lst (ma_cons (me_var 1) (ma_cons (me_if (mt_cmp (op_neD hr.units) (p_ne rfl) (me_var 2) me_int (nomark _)) (me_var 2) me_int) ma_nil))))))))), F.kp, F.bindsN fun _ _ _ _ _ _ us hl => match us, hl with | [_], _ => rfl⟩
def m__law_take : M Fl := sSeq (sIf (t2 cGt (eIxO 0 (eC (.int 0))) (eC (.int 0)))
      (sSeq (sAsg 2 (e2 fMod (eN fInt1 (aCons (eIxO 0 (eC (.int 0))) (aNil))) (eV 1)))
      (sSeq (sSetIx 0 (e2 fFdiv (eIxO 0 (eC (.int 0))) (eV 1)) (eC (.int 0)))
      (sRet (eGive 2)))) (sNx))
      (sSeq (sSetIx 0 (e2 fMod (eN fInt1 (aCons (e2 fAdd (e2 fMul (eIxO 0 (eC (.int 1))) (eC (.int 48271))) (eC (.int 11))) (aNil))) (eC (.int 2147483647))) (eC (.int 1)))
      (sRet (e2 fMod (eN fInt1 (aCons (e2 fFdiv (eIxO 0 (eC (.int 1))) (eC (.int 7))) (aNil))) (eV 1))))
def f__law_take : D → List D → FB := mFnB 3 m__law_take
theorem ok__law_take (T : Txt K mg) : GoodB (CC K) P w K mg base 1 27 2 (f__law_take) := by
  obtain ⟨fd, F⟩ := T.f__law_take
  exact ⟨fd, ["state", "m"], fn_okB F sc__law_take (fun cdv A outer s H E B hr => (ms_cons (ms_if (mt_cmp op_gt p_gt (me_ixO rfl 0 me_int (fun _ _ => rfl)) me_int (nomark _)) (ms_cons (ms_set (i := 2) sc__law_take.nd rfl (by first | exact Or.inl rfl | exact Or.inr rfl) (me_op op_modN p_mod (me_callTy call_int1 n_int1 (by rfl) T.z_int (by decide +kernel) (ma_cons (me_ixO rfl 0 me_int (fun _ _ => rfl)) ma_nil)) (me_var 1)))
      (ms_cons (ms_setIx 0 (me_op op_fdivX p_fdiv (me_ixO rfl 0 me_int (fun _ _ => rfl)) (me_var 1)) me_int)
      (ms_one (ms_ret (me_give 2))))) ms_nil)
      (ms_cons (ms_setIx 0 (me_op op_modN p_mod (me_callTy call_int1 n_int1 (by rfl) T.z_int (by decide +kernel) (ma_cons (me_op op_addX (p_add rfl) (me_op op_mulA (p_mulA rfl) (me_ixO rfl 0 me_int (fun _ _ => rfl)) me_int) me_int) ma_nil)) me_int) me_int)
      (ms_one (ms_ret (me_op op_modN p_mod (me_callTy call_int1 n_int1 (by rfl) T.z_int (by decide +kernel) (ma_cons (me_op op_fdivX p_fdiv (me_ixO rfl 0 me_int (fun _ _ => rfl)) me_int) ma_nil)) (me_var 1))))))), F.kp, F.bindsN fun _ _ _ _ _ _ us hl => match us, hl with | [_, _], _ => rfl⟩
def m__law_says : M Fl := sRet (eAnd (eN fIsi (aCons (eV 0) (aCons (eC (.ty .bool)) (aNil)))) (e2 (cmp cEq) (eV 0) (eV 1)))
def f__law_says : List D → FO := mFn 2 m__law_says
theorem ok__law_says (T : Txt K mg) : Good (CC K) P w K mg base 1 28 2 (f__law_says) := by
  obtain ⟨fd, F⟩ := T.f__law_says
  exact ⟨fd, ["value", "due"], fn_ok F sc__law_says (fun cdv A outer s H E B hr => (ms_one (ms_ret (me_and (me_callB call_isi (n_isi rfl) (by rfl) T.z_isinstance (by decide +kernel) (ma_cons (me_var 0) (ma_cons (me_ty .bool (by rfl) T.z_bool (by decide +kernel)) ma_nil))) (me_one (me_cmp (op_eqD hr.units) (p_eq rfl) (me_var 0) (me_var 1) (nomark _))))))), F.kp, F.bindsN fun _ _ _ _ _ _ us hl => match us, hl with | [_, _], _ => rfl⟩
def m__law_is_whole : M Fl := sRet (eAnd (eN fIsi (aCons (eV 0) (aCons (eC (.ty .int)) (aNil)))) (eNot (eN fIsi (aCons (eV 0) (aCons (eC (.ty .bool)) (aNil))))))
def f__law_is_whole : List D → FO := mFn 1 m__law_is_whole
theorem ok__law_is_whole (T : Txt K mg) : Good (CC K) P w K mg base 1 29 1 (f__law_is_whole) := by
  obtain ⟨fd, F⟩ := T.f__law_is_whole
  exact ⟨fd, ["value"], fn_ok F sc__law_is_whole (fun cdv A outer s H E B hr => (ms_one (ms_ret (me_and (me_callB call_isi (n_isi rfl) (by rfl) T.z_isinstance (by decide +kernel) (ma_cons (me_var 0) (ma_cons (me_ty .int (by rfl) T.z_int (by decide +kernel)) ma_nil))) (me_one (me_not (me_callB call_isi (n_isi rfl) (by rfl) T.z_isinstance (by decide +kernel) (ma_cons (me_var 0) (ma_cons (me_ty .bool (by rfl) T.z_bool (by decide +kernel)) ma_nil))))))))), F.kp, F.bindsN fun _ _ _ _ _ _ us hl => match us, hl with | [_], _ => rfl⟩
def m__law_common : M Fl := sSeq (sPar 0 1 (aCons (eN fAbs (aCons (eV 0) (aNil))) (aCons (eN fAbs (aCons (eV 1) (aNil))) (aNil))))
      (sSeq (whL (t2 cGt (eV 1) (eC (.int 0)))
      (sPar 0 1 (aCons (eV 1) (aCons (e2 fMod (eN fInt1 (aCons (eV 0) (aNil))) (eV 1)) (aNil)))) 1000000000)
      (sRet (eGive 0)))
def f__law_common : List D → FO := mFn 2 m__law_common
theorem ok__law_common (T : Txt K mg) : Good (CC K) P w K mg base 1 33 2 (f__law_common) := by
  obtain ⟨fd, F⟩ := T.f__law_common
  exact ⟨fd, ["a", "b"], fn_ok F sc__law_common (fun cdv A outer s H E B hr => (ms_cons (ms_par (i := 0) (j := 1) rfl sc__law_common.nd rfl rfl (by decide) rfl rfl (ma_cons (me_callB call_abs n_abs (by rfl) T.z_abs (by decide +kernel) (ma_cons (me_var 0) ma_nil)) (ma_cons (me_callB call_abs n_abs (by rfl) T.z_abs (by decide +kernel) (ma_cons (me_var 1) ma_nil)) ma_nil)) (by rfl))
      (ms_cons (ms_while 1000000000 (passes_of rfl) (mt_cmp op_gt p_gt (me_var 1) me_int (nomark _)) (ms_one (ms_par (i := 0) (j := 1) rfl sc__law_common.nd rfl rfl (by decide) rfl rfl (ma_cons (me_var 1) (ma_cons (me_op op_modN p_mod (me_callTy call_int1 n_int1 (by rfl) T.z_int (by decide +kernel) (ma_cons (me_var 0) ma_nil)) (me_var 1)) ma_nil)) (by rfl))))
      (ms_one (ms_ret (me_give 0)))))), F.kp, F.bindsN fun _ _ _ _ _ _ us hl => match us, hl with | [_, _], _ => rfl⟩
def m__law_unit : M Fl := sRet (eN fTupOf (aCons (eLc (iN rg1 (aCons (eV 0) (aNil))) (gNm 1) (tTrue) (eN fTupOf (aCons (eLc (iN rg1 (aCons (eV 0) (aNil))) (gNm 2) (tTrue) (eN fInt1 (aCons (e2 (cmp cEq) (eV 1) (eV 2)) (aNil))) [2]) (aNil))) [1]) (aNil)))
def f__law_unit : List D → FO := mFn 3 m__law_unit
theorem ok__law_unit (T : Txt K mg) : Good (CC K) P w K mg base 1 34 1 (f__law_unit) := by
  obtain ⟨fd, F⟩ := T.f__law_unit
  exact ⟨fd, ["n"], fn_ok F sc__law_unit (fun cdv A outer s H E B hr => (ms_one (ms_ret (me_callTy call_tuple_of (n_tupOf rfl) (by rfl) T.z_tuple (by decide +kernel) (ma_cons (me_lc [("i", 1)] rfl sc__law_unit.nd (mi_range1 (by rfl) T.z_range (ma_cons (me_var 0) ma_nil)) (blkOk_by (N := ["n", "i", "j"]) (sc := defScope s__law_unit) (own := [("i", 1)]) (by decide +kernel)) (fun _ _ _ _ _ _ => (mg_name (i := 1) sc__law_unit.nd rfl (by first | exact Or.inl rfl | exact Or.inr rfl))) (fun _ _ _ _ _ _ => mts_nil) (fun _ _ _ _ _ _ => (me_callTy call_tuple_of (n_tupOf rfl) (by rfl) T.z_tuple (by decide +kernel) (ma_cons (me_lc [("j", 2)] rfl sc__law_unit.nd (mi_range1 (by rfl) T.z_range (ma_cons (me_var 0) ma_nil)) (blkOk_1 (N := ["n", "i", "j"]) (sc0 := defScope s__law_unit) (own := [("j", 2)]) rfl (by decide +kernel)) (fun _ _ _ _ _ _ => (mg_name (i := 2) sc__law_unit.nd rfl (by first | exact Or.inl rfl | exact Or.inr rfl))) (fun _ _ _ _ _ _ => mts_nil) (fun _ _ _ _ _ _ => (me_callTy call_int1 n_int1 (by rfl) T.z_int (by decide +kernel) (ma_cons (me_cmp (op_eqD hr.units) (p_eq rfl) (me_var 1) (me_var 2) (nomark _)) ma_nil)))) ma_nil)))) ma_nil))))), F.kp, F.bindsN fun _ _ _ _ _ _ us hl => match us, hl with | [_], _ => rfl⟩
def m__law_lead : M Fl := sSeq (sAsg 1 (eLc (iN rg1 (aCons (eN fLen (aCons (eV 0) (aNil))) (aNil))) (gNm 2) (t2 cNe (e2 fIx (eV 0) (eV 2)) (eC (.int 0))) (eV 2) [2]))
      (sRet (eIf (t2 cGt (eN fLen (aCons (eV 1) (aNil))) (eC (.int 0))) (e2 fIx (eV 1) (eC (.int 0))) (eN fLen (aCons (eV 0) (aNil)))))
def f__law_lead : List D → FO := mFn 3 m__law_lead
theorem ok__law_lead (T : Txt K mg) : Good (CC K) P w K mg base 1 41 1 (f__law_lead) := by
  obtain ⟨fd, F⟩ := T.f__law_lead
  exact ⟨fd, ["row"], fn_ok F sc__law_lead (fun cdv A outer s H E B hr => (ms_cons (ms_setLc (i := 1) [("k", 2)] rfl sc__law_lead.nd rfl rfl (sw_true rfl rfl rfl (by decide +kernel)) (mi_range1 (by rfl) T.z_range (ma_cons (me_callB cr_lenX (n_len rfl) (by rfl) T.z_len (by decide +kernel) (ma_cons (me_var 0) ma_nil)) ma_nil)) (blkOk_by (N := ["row", "places", "k"]) (sc := defScope s__law_lead) (own := [("k", 2)]) (by decide +kernel)) (fun _ _ _ _ _ _ => (mg_name (i := 2) sc__law_lead.nd rfl (by first | exact Or.inl rfl | exact Or.inr rfl))) (fun _ _ _ _ _ _ => (mts_one (mt_cmp (op_neD hr.units) (p_ne rfl) (me_ix ix_seq (p_ix rfl) (me_var 0) (me_var 2) (fun _ _ => rfl)) me_int (nomark _)))) (fun _ _ _ _ _ _ => (me_var 2)))
      (ms_one (ms_ret (me_if (mt_cmp op_gt p_gt (me_callB cr_lenX (n_len rfl) (by rfl) T.z_len (by decide +kernel) (ma_cons (me_var 1) ma_nil)) me_int (nomark _)) (me_ix ix_seq (p_ix rfl) (me_var 1) me_int (fun _ _ => rfl)) (me_callB cr_lenX (n_len rfl) (by rfl) T.z_len (by decide +kernel) (ma_cons (me_var 0) ma_nil))))))), F.kp, F.bindsN fun _ _ _ _ _ _ us hl => match us, hl with | [_], _ => rfl⟩
def m_is_row : M Fl := sRet (eAnd (eN fIsi (aCons (eV 0) (aCons (eC (.ty .tuple)) (aNil)))) (eN fAll (aCons (eLc (iV itS (eV 0)) (gNm 1) (tTrue) (eCall 1 f_is_integer (aCons (eV 1) (aNil))) [1]) (aNil))))
def f_is_row : List D → FO := mFn 2 m_is_row
theorem ok_is_row (T : Txt K mg) : Good (CC K) P w K mg base 2 4 1 (f_is_row) := by
  obtain ⟨fd, F⟩ := T.f_is_row
  exact ⟨fd, ["value"], fn_ok F sc_is_row (fun cdv A outer s H E B hr => (ms_one (ms_ret (me_and (me_callB call_isi (n_isi rfl) (by rfl) T.z_isinstance (by decide +kernel) (ma_cons (me_var 0) (ma_cons (me_ty .tuple (by rfl) T.z_tuple (by decide +kernel)) ma_nil))) (me_one (me_callB (cr_all rfl) (n_all rfl) (by rfl) T.z_all (by decide +kernel) (ma_cons (me_lc [("c", 1)] rfl sc_is_row.nd (mi_seq rfl (me_var 0)) (blkOk_by (N := ["value", "c"]) (sc := defScope s_is_row) (own := [("c", 1)]) (by decide +kernel)) (fun _ _ _ _ _ _ => (mg_name (i := 1) sc_is_row.nd rfl (by first | exact Or.inl rfl | exact Or.inr rfl))) (fun _ _ _ _ _ _ => mts_nil) (fun _ _ _ _ _ _ => (me_call (ok_is_integer T) (hr.mono (by decide)) (by rfl) T.g_is_integer takes0 (ma_cons (me_var 1) ma_nil)))) ma_nil))))))), F.kp, F.bindsN fun _ _ _ _ _ _ us hl => match us, hl with | [_], _ => rfl⟩
def m_check_from : M Fl := sIf (MM.tOr (MM.tNot (tV (eCall 1 f_is_integer (aCons (eV 0) (aNil))))) (MM.tNot (MM.tChain cLe cLe (eV 1) (eV 0) (eV 2))))
      (sRaise ⟨1, none⟩) (sNx)
def f_check_from : List D → FO := mFn 3 m_check_from
theorem ok_check_from (T : Txt K mg) : Good (CC K) P w K mg base 2 5 3 (f_check_from) := by
  obtain ⟨fd, F⟩ := T.f_check_from
  exact ⟨fd, ["n", "low", "high"], fn_ok F sc_check_from (fun cdv A outer s H E B hr => (ms_one (ms_if (PW.pt (mw_or (mt_not (mt_v rfl (me_call (ok_is_integer T) (hr.mono (by decide)) (by rfl) T.g_is_integer (takes_of rfl rfl rfl rfl) (ma_cons (me_var 0) ma_nil)))) (mw_o1 (mt_not (mt_chain op_le op_le p_le p_le (me_var 1) (me_var 0) (me_var 2)))))) (ms_one (ms_raise rfl (takes_of rfl rfl rfl rfl) T.x_Malformed.e.1 T.g_Malformed T.x_Malformed.e.2.1 T.x_Malformed.raises (by rfl))) ms_nil))), F.kp, F.bindsN fun _ _ _ _ _ _ us hl => match us, hl with | [_, _, _], _ => rfl⟩
def m_common_of : M Fl := sSeq (sAsg 1 (eC (.int 0)))
      (sSeq (sFor (iV itS (eV 0)) (gNm 2)
      (sSeq (sAsg 1 (eCall 2 f_common (aCons (eV 1) (aCons (eV 2) (aNil)))))
      (sIf (t2 cEq (eV 1) (eC (.int 1)))
      (sRet (eC (.int 1))) (sNx))))
      (sRet (eGive 1)))
def f_common_of : List D → FO := mFn 3 m_common_of
theorem ok_common_of (T : Txt K mg) : Good (CC K) P w K mg base 2 8 1 (f_common_of) := by
  obtain ⟨fd, F⟩ := T.f_common_of
  exact ⟨fd, ["row"], fn_ok F sc_common_of (fun cdv A outer s H E B hr => (ms_cons (ms_set (i := 1) sc_common_of.nd rfl (by first | exact Or.inl rfl | exact Or.inr rfl) me_int)
      (ms_cons (ms_for (passes_of rfl) rfl (mi_seq rfl (me_var 0)) (mg_name (i := 2) sc_common_of.nd rfl (by first | exact Or.inl rfl | exact Or.inr rfl)) (ms_cons (ms_set (i := 1) sc_common_of.nd rfl (by first | exact Or.inl rfl | exact Or.inr rfl) (me_call (ok_common T) (hr.mono (by decide)) (by rfl) T.g_common (takes_of rfl rfl rfl rfl) (ma_cons (me_var 1) (ma_cons (me_var 2) ma_nil))))
      (ms_one (ms_if (mt_cmp (op_eqD hr.units) (p_eq rfl) (me_var 1) me_int (nomark _)) (ms_one (ms_ret me_int)) ms_nil))))
      (ms_one (ms_ret (me_give 1)))))), F.kp, F.bindsN fun _ _ _ _ _ _ us hl => match us, hl with | [_], _ => rfl⟩
def m_whole_space : M Fl := sRet (eCall 1 f_unit_table (aCons (eV 0) (aNil)))
def f_whole_space : List D → FO := mFn 1 m_whole_space
theorem ok_whole_space (T : Txt K mg) : Good (CC K) P w K mg base 2 21 1 (f_whole_space) := by
  obtain ⟨fd, F⟩ := T.f_whole_space
  exact ⟨fd, ["n"], fn_ok F sc_whole_space (fun cdv A outer s H E B hr => (ms_one (ms_ret (me_call (ok_unit_table T) (hr.mono (by decide)) (by rfl) T.g_unit_table (takes_of rfl rfl rfl rfl) (ma_cons (me_var 0) ma_nil))))), F.kp, F.bindsN fun _ _ _ _ _ _ us hl => match us, hl with | [_], _ => rfl⟩
def m__law_slim : M Fl := sSeq (sAsg 1 (eC (.int 0)))
      (sSeq (sFor (iV itS (eV 0)) (gNm 2)
      (sAsg 1 (eCall 2 f__law_common (aCons (eV 1) (aCons (eV 2) (aNil))))))
      (sSeq (sIf (t2 cEq (eV 1) (eC (.int 0)))
      (sRet (eN fTupOf (aCons (eV 0) (aNil)))) (sNx))
      (sSeq (sAsg 3 (e2 fIx (eLc (iV itS (eV 0)) (gNm 2) (t2 cNe (eV 2) (eC (.int 0))) (eV 2) [2]) (eC (.int 0))))
      (sSeq (sAsg 1 (eIf (t2 cGt (eV 3) (eC (.int 0))) (eV 1) (e1 fNeg (eV 1))))
      (sRet (eN fTupOf (aCons (eLc (iV itS (eV 0)) (gNm 2) (tTrue) (e2 fFdiv (eV 2) (eV 1)) [2]) (aNil))))))))
def f__law_slim : List D → FO := mFn 4 m__law_slim
theorem ok__law_slim (T : Txt K mg) : Good (CC K) P w K mg base 2 35 1 (f__law_slim) := by
  obtain ⟨fd, F⟩ := T.f__law_slim
  exact ⟨fd, ["row"], fn_ok F sc__law_slim (fun cdv A outer s H E B hr => (ms_cons (ms_set (i := 1) sc__law_slim.nd rfl (by first | exact Or.inl rfl | exact Or.inr rfl) me_int)
      (ms_cons (ms_for (passes_of rfl) rfl (mi_seq rfl (me_var 0)) (mg_name (i := 2) sc__law_slim.nd rfl (by first | exact Or.inl rfl | exact Or.inr rfl)) (ms_one (ms_set (i := 1) sc__law_slim.nd rfl (by first | exact Or.inl rfl | exact Or.inr rfl) (me_call (ok__law_common T) (hr.mono (by decide)) (by rfl) T.g__law_common (takes_of rfl rfl rfl rfl) (ma_cons (me_var 1) (ma_cons (me_var 2) ma_nil))))))
      (ms_cons (ms_if (mt_cmp (op_eqD hr.units) (p_eq rfl) (me_var 1) me_int (nomark _)) (ms_one (ms_ret (me_callTy call_tuple_of (n_tupOf rfl) (by rfl) T.z_tuple (by decide +kernel) (ma_cons (me_var 0) ma_nil)))) ms_nil)
      (ms_cons (ms_set (i := 3) sc__law_slim.nd rfl (by first | exact Or.inl rfl | exact Or.inr rfl) (me_ix ix_seq (p_ix rfl) (me_lc [("c", 2)] rfl sc__law_slim.nd (mi_seq rfl (me_var 0)) (blkOk_by (N := ["row", "g", "c", "first"]) (sc := defScope s__law_slim) (own := [("c", 2)]) (by decide +kernel)) (fun _ _ _ _ _ _ => (mg_name (i := 2) sc__law_slim.nd rfl (by first | exact Or.inl rfl | exact Or.inr rfl))) (fun _ _ _ _ _ _ => (mts_one (mt_cmp (op_neD hr.units) (p_ne rfl) (me_var 2) me_int (nomark _)))) (fun _ _ _ _ _ _ => (me_var 2))) me_int (fun _ _ => rfl)))
      (ms_cons (ms_set (i := 1) sc__law_slim.nd rfl (by first | exact Or.inl rfl | exact Or.inr rfl) (me_if (mt_cmp op_gt p_gt (me_var 3) me_int (nomark _)) (me_var 1) (me_e1 un_neg p_neg (me_var 1))))
      (ms_one (ms_ret (me_callTy call_tuple_of (n_tupOf rfl) (by rfl) T.z_tuple (by decide +kernel) (ma_cons (me_lc [("c", 2)] rfl sc__law_slim.nd (mi_seq rfl (me_var 0)) (blkOk_by (N := ["row", "g", "c", "first"]) (sc := defScope s__law_slim) (own := [("c", 2)]) (by decide +kernel)) (fun _ _ _ _ _ _ => (mg_name (i := 2) sc__law_slim.nd rfl (by first | exact Or.inl rfl | exact Or.inr rfl))) (fun _ _ _ _ _ _ => mts_nil) (fun _ _ _ _ _ _ => (me_op op_fdivX p_fdiv (me_var 2) (me_var 1)))) ma_nil)))))))))), F.kp, F.bindsN fun _ _ _ _ _ _ us hl => match us, hl with | [_], _ => rfl⟩
def m__law_number : M Fl := sRet (e2 fSub (eCallB 2 0 f__law_take (aCons (eC (.int 7)) (aNil))) (eC (.int 3)))
def f__law_number : D → List D → FB := mFnB 1 m__law_number
theorem ok__law_number (T : Txt K mg) : GoodB (CC K) P w K mg base 2 39 1 (f__law_number) := by
  obtain ⟨fd, F⟩ := T.f__law_number
  exact ⟨fd, ["state"], fn_okB F sc__law_number (fun cdv A outer s H E B hr => (ms_one (ms_ret (me_op op_subX p_sub (me_callO 0 (ok__law_take T) (hr.mono (by decide)) (by rfl) T.g__law_take (takes_of rfl rfl rfl rfl) (ma_cons me_int ma_nil)) me_int)))), F.kp, F.bindsN fun _ _ _ _ _ _ us hl => match us, hl with | [_], _ => rfl⟩
def m_check_row : M Fl := sIf (MM.tOr (MM.tNot (tV (eCall 1 f_is_row (aCons (eV 0) (aNil))))) (t2 cNe (eN fLen (aCons (eV 0) (aNil))) (eV 1)))
      (sRaise ⟨1, none⟩) (sNx)
def f_check_row : List D → FO := mFn 2 m_check_row
theorem ok_check_row (T : Txt K mg) : Good (CC K) P w K mg base 3 6 2 (f_check_row) := by
  obtain ⟨fd, F⟩ := T.f_check_row
  exact ⟨fd, ["value", "n"], fn_ok F sc_check_row (fun cdv A outer s H E B hr => (ms_one (ms_if (PW.pt (mw_or (mt_not (mt_v rfl (me_call (ok_is_row T) (hr.mono (by decide)) (by rfl) T.g_is_row (takes_of rfl rfl rfl rfl) (ma_cons (me_var 0) ma_nil)))) (mw_o1 (mt_cmp (op_neD hr.units) (p_ne rfl) (me_callB cr_lenX (n_len rfl) (by rfl) T.z_len (by decide +kernel) (ma_cons (me_var 0) ma_nil)) (me_var 1) (nomark _))))) (ms_one (ms_raise rfl (takes_of rfl rfl rfl rfl) T.x_Malformed.e.1 T.g_Malformed T.x_Malformed.e.2.1 T.x_Malformed.raises (by rfl))) ms_nil))), F.kp, F.bindsN fun _ _ _ _ _ _ us hl => match us, hl with | [_, _], _ => rfl⟩
def m_is_rows : M Fl := sRet (eAnd (eN fIsiA (aCons (eV 0) (aCons (eN fTup (aCons (eC (.ty .list)) (aCons (eC (.ty .tuple)) (aNil)))) (aNil)))) (eN fAll (aCons (eLc (iV itS (eV 0)) (gNm 2) (tTrue) (eAnd (eCall 1 f_is_row (aCons (eV 2) (aNil))) (e2 (cmp cEq) (eN fLen (aCons (eV 2) (aNil))) (eV 1))) [2]) (aNil))))
def f_is_rows : List D → FO := mFn 3 m_is_rows
theorem ok_is_rows (T : Txt K mg) : Good (CC K) P w K mg base 3 10 2 (f_is_rows) := by
  obtain ⟨fd, F⟩ := T.f_is_rows
  exact ⟨fd, ["value", "n"], fn_ok F sc_is_rows (fun cdv A outer s H E B hr => (ms_one (ms_ret (me_and (me_callB call_isiA (n_isiA rfl) (by rfl) T.z_isinstance (by decide +kernel) (ma_cons (me_var 0) (ma_cons (me_tup (ma_cons (me_ty .list (by rfl) T.z_list (by decide +kernel)) (ma_cons (me_ty .tuple (by rfl) T.z_tuple (by decide +kernel)) ma_nil))) ma_nil))) (me_one (me_callB (cr_all rfl) (n_all rfl) (by rfl) T.z_all (by decide +kernel) (ma_cons (me_lc [("row", 2)] rfl sc_is_rows.nd (mi_seq rfl (me_var 0)) (blkOk_by (N := ["value", "n", "row"]) (sc := defScope s_is_rows) (own := [("row", 2)]) (by decide +kernel)) (fun _ _ _ _ _ _ => (mg_name (i := 2) sc_is_rows.nd rfl (by first | exact Or.inl rfl | exact Or.inr rfl))) (fun _ _ _ _ _ _ => mts_nil) (fun _ _ _ _ _ _ => (me_and (me_call (ok_is_row T) (hr.mono (by decide)) (by rfl) T.g_is_row takes0 (ma_cons (me_var 2) ma_nil)) (me_one (me_cmp (op_eqD hr.units) (p_eq rfl) (me_callB cr_lenX (n_len rfl) (by rfl) T.z_len (by decide +kernel) (ma_cons (me_var 2) ma_nil)) (me_var 1) (nomark _)))))) ma_nil))))))), F.kp, F.bindsN fun _ _ _ _ _ _ us hl => match us, hl with | [_, _], _ => rfl⟩
def m_slim : M Fl := sSeq (sAsg 1 (eCall 1 f_common_of (aCons (eV 0) (aNil))))
      (sSeq (sIf (t2 cEq (eV 1) (eC (.int 0)))
      (sRet (eN fTupOf (aCons (eV 0) (aNil)))) (sNx))
      (sSeq (sAsg 2 (e2 fIx (eLc (iV itS (eV 0)) (gNm 3) (t2 cNe (eV 3) (eC (.int 0))) (eV 3) [3]) (eC (.int 0))))
      (sSeq (sAsg 1 (eIf (t2 cLt (eV 2) (eC (.int 0))) (e1 fNeg (eV 1)) (eV 1)))
      (sRet (eN fTupOf (aCons (eLc (iV itS (eV 0)) (gNm 3) (tTrue) (e2 fFdiv (eV 3) (eV 1)) [3]) (aNil)))))))
def f_slim : List D → FO := mFn 4 m_slim
theorem ok_slim (T : Txt K mg) : Good (CC K) P w K mg base 3 12 1 (f_slim) := by
  obtain ⟨fd, F⟩ := T.f_slim
  exact ⟨fd, ["row"], fn_ok F sc_slim (fun cdv A outer s H E B hr => (ms_cons (ms_set (i := 1) sc_slim.nd rfl (by first | exact Or.inl rfl | exact Or.inr rfl) (me_call (ok_common_of T) (hr.mono (by decide)) (by rfl) T.g_common_of (takes_of rfl rfl rfl rfl) (ma_cons (me_var 0) ma_nil)))
      (ms_cons (ms_if (mt_cmp (op_eqD hr.units) (p_eq rfl) (me_var 1) me_int (nomark _)) (ms_one (ms_ret (me_callTy call_tuple_of (n_tupOf rfl) (by rfl) T.z_tuple (by decide +kernel) (ma_cons (me_var 0) ma_nil)))) ms_nil)
      (ms_cons (ms_set (i := 2) sc_slim.nd rfl (by first | exact Or.inl rfl | exact Or.inr rfl) (me_ix ix_seq (p_ix rfl) (me_lc [("c", 3)] rfl sc_slim.nd (mi_seq rfl (me_var 0)) (blkOk_by (N := ["row", "g", "lead", "c"]) (sc := defScope s_slim) (own := [("c", 3)]) (by decide +kernel)) (fun _ _ _ _ _ _ => (mg_name (i := 3) sc_slim.nd rfl (by first | exact Or.inl rfl | exact Or.inr rfl))) (fun _ _ _ _ _ _ => (mts_one (mt_cmp (op_neD hr.units) (p_ne rfl) (me_var 3) me_int (nomark _)))) (fun _ _ _ _ _ _ => (me_var 3))) me_int (fun _ _ => rfl)))
      (ms_cons (ms_set (i := 1) sc_slim.nd rfl (by first | exact Or.inl rfl | exact Or.inr rfl) (me_if (mt_cmp op_lt p_lt (me_var 2) me_int (nomark _)) (me_e1 un_neg p_neg (me_var 1)) (me_var 1)))
      (ms_one (ms_ret (me_callTy call_tuple_of (n_tupOf rfl) (by rfl) T.z_tuple (by decide +kernel) (ma_cons (me_lc [("c", 3)] rfl sc_slim.nd (mi_seq rfl (me_var 0)) (blkOk_by (N := ["row", "g", "lead", "c"]) (sc := defScope s_slim) (own := [("c", 3)]) (by decide +kernel)) (fun _ _ _ _ _ _ => (mg_name (i := 3) sc_slim.nd rfl (by first | exact Or.inl rfl | exact Or.inr rfl))) (fun _ _ _ _ _ _ => mts_nil) (fun _ _ _ _ _ _ => (me_op op_fdivX p_fdiv (me_var 3) (me_var 1)))) ma_nil))))))))), F.kp, F.bindsN fun _ _ _ _ _ _ us hl => match us, hl with | [_], _ => rfl⟩
def m__law_least : M Fl := sSeq (sPar 2 3 (aCons (eLc (iV itS (eV 0)) (gNm 7) (tTrue) (eN fTupOf (aCons (eV 7) (aNil))) [7]) (aCons (eN fLst (aNil)) (aNil))))
      (sSeq (sFor (iN rg1 (aCons (eV 1) (aNil))) (gNm 4)
      (sSeq (sAsg 5 (eLc (iV itS (eV 2)) (gNm 7) (t2 cNe (e2 fIx (eV 7) (eV 4)) (eC (.int 0))) (eV 7) [7]))
      (sIf (t2 cGt (eN fLen (aCons (eV 5) (aNil))) (eC (.int 0)))
      (sSeq (sAsg 6 (e2 fIx (eV 5) (eC (.int 0))))
      (sSeq (sAsg 2 (eLc (iV itS (eV 2)) (gNm 7) (tTrue) (eCall 1 f__law_slim (aCons (eLc (iN rg1 (aCons (eV 1) (aNil))) (gNm 8) (tTrue) (e2 fSub (e2 fMul (e2 fIx (eV 6) (eV 4)) (e2 fIx (eV 7) (eV 8))) (e2 fMul (e2 fIx (eV 7) (eV 4)) (e2 fIx (eV 6) (eV 8)))) [8]) (aNil))) [7]))
      (sAsg 3 (e2 fAdd (eLc (iV itS (eV 3)) (gNm 7) (tTrue) (eCall 1 f__law_slim (aCons (eLc (iN rg1 (aCons (eV 1) (aNil))) (gNm 8) (tTrue) (e2 fSub (e2 fMul (e2 fIx (eV 6) (eV 4)) (e2 fIx (eV 7) (eV 8))) (e2 fMul (e2 fIx (eV 7) (eV 4)) (e2 fIx (eV 6) (eV 8)))) [8]) (aNil))) [7]) (eN fLst (aCons (eCall 1 f__law_slim (aCons (eV 6) (aNil))) (aNil))))))) (sNx))))
      (sRet (eN fTupOf (aCons (eV 3) (aNil)))))
def f__law_least : List D → FO := mFn 9 m__law_least
theorem ok__law_least (T : Txt K mg) : Good (CC K) P w K mg base 3 36 2 (f__law_least) := by
  obtain ⟨fd, F⟩ := T.f__law_least
  exact ⟨fd, ["rows", "n"], fn_ok F sc__law_least (fun cdv A outer s H E B hr => (ms_cons (ms_par (i := 2) (j := 3) rfl sc__law_least.nd rfl rfl (by decide) rfl rfl (ma_cons (me_lc [("row", 7)] rfl sc__law_least.nd (mi_seq rfl (me_var 0)) (blkOk_by (N := ["rows", "n", "left", "found", "k", "good", "lead", "row", "j"]) (sc := defScope s__law_least) (own := [("row", 7)]) (by decide +kernel)) (fun _ _ _ _ _ _ => (mg_name (i := 7) sc__law_least.nd rfl (by first | exact Or.inl rfl | exact Or.inr rfl))) (fun _ _ _ _ _ _ => mts_nil) (fun _ _ _ _ _ _ => (me_callTy call_tuple_of (n_tupOf rfl) (by rfl) T.z_tuple (by decide +kernel) (ma_cons (me_var 7) ma_nil)))) (ma_cons (me_lst ma_nil) ma_nil)) (by rfl))
      (ms_cons (ms_for (passes_of rfl) rfl (mi_range1 (by rfl) T.z_range (ma_cons (me_var 1) ma_nil)) (mg_name (i := 4) sc__law_least.nd rfl (by first | exact Or.inl rfl | exact Or.inr rfl)) (ms_cons (ms_setLc (i := 5) [("row", 7)] rfl sc__law_least.nd rfl rfl (sw_true rfl rfl rfl (by decide +kernel)) (mi_seq rfl (me_var 2)) (blkOk_by (N := ["rows", "n", "left", "found", "k", "good", "lead", "row", "j"]) (sc := defScope s__law_least) (own := [("row", 7)]) (by decide +kernel)) (fun _ _ _ _ _ _ => (mg_name (i := 7) sc__law_least.nd rfl (by first | exact Or.inl rfl | exact Or.inr rfl))) (fun _ _ _ _ _ _ => (mts_one (mt_cmp (op_neD hr.units) (p_ne rfl) (me_ix ix_seq (p_ix rfl) (me_var 7) (me_var 4) (fun _ _ => rfl)) me_int (nomark _)))) (fun _ _ _ _ _ _ => (me_var 7)))
      (ms_one (ms_if (mt_cmp op_gt p_gt (me_callB cr_lenX (n_len rfl) (by rfl) T.z_len (by decide +kernel) (ma_cons (me_var 5) ma_nil)) me_int (nomark _)) (ms_cons (ms_set (i := 6) sc__law_least.nd rfl (by first | exact Or.inl rfl | exact Or.inr rfl) (me_ix ix_seq (p_ix rfl) (me_var 5) me_int (fun _ _ => rfl)))
      (ms_cons (ms_setLc (i := 2) [("row", 7)] rfl sc__law_least.nd rfl rfl (sw_true rfl rfl rfl (by decide +kernel)) (mi_seq rfl (me_var 2)) (blkOk_by (N := ["rows", "n", "left", "found", "k", "good", "lead", "row", "j"]) (sc := defScope s__law_least) (own := [("row", 7)]) (by decide +kernel)) (fun _ _ _ _ _ _ => (mg_name (i := 7) sc__law_least.nd rfl (by first | exact Or.inl rfl | exact Or.inr rfl))) (fun _ _ _ _ _ _ => mts_nil) (fun _ _ _ _ _ _ => (me_call (ok__law_slim T) (hr.mono (by decide)) (by rfl) T.g__law_slim takes0 (ma_cons (me_lc [("j", 8)] rfl sc__law_least.nd (mi_range1 (by rfl) T.z_range (ma_cons (me_var 1) ma_nil)) (blkOk_1 (N := ["rows", "n", "left", "found", "k", "good", "lead", "row", "j"]) (sc0 := defScope s__law_least) (own := [("j", 8)]) rfl (by decide +kernel)) (fun _ _ _ _ _ _ => (mg_name (i := 8) sc__law_least.nd rfl (by first | exact Or.inl rfl | exact Or.inr rfl))) (fun _ _ _ _ _ _ => mts_nil) (fun _ _ _ _ _ _ => (me_op op_subX p_sub (me_op op_mulA (p_mulA rfl) (me_ix ix_seq (p_ix rfl) (me_var 6) (me_var 4) (fun _ _ => rfl)) (me_ix ix_seq (p_ix rfl) (me_var 7) (me_var 8) (fun _ _ => rfl))) (me_op op_mulA (p_mulA rfl) (me_ix ix_seq (p_ix rfl) (me_var 7) (me_var 4) (fun _ _ => rfl)) (me_ix ix_seq (p_ix rfl) (me_var 6) (me_var 8) (fun _ _ => rfl)))))) ma_nil))))
      (ms_one (ms_set (i := 3) sc__law_least.nd rfl (by first | exact Or.inl rfl | exact Or.inr rfl) (me_op op_addX (p_add rfl) (me_lc [("row", 7)] rfl sc__law_least.nd (mi_seq rfl (me_var 3)) (blkOk_by (N := ["rows", "n", "left", "found", "k", "good", "lead", "row", "j"]) (sc := defScope s__law_least) (own := [("row", 7)]) (by decide +kernel)) (fun _ _ _ _ _ _ => (mg_name (i := 7) sc__law_least.nd rfl (by first | exact Or.inl rfl | exact Or.inr rfl))) (fun _ _ _ _ _ _ => mts_nil) (fun _ _ _ _ _ _ => (me_call (ok__law_slim T) (hr.mono (by decide)) (by rfl) T.g__law_slim takes0 (ma_cons (me_lc [("j", 8)] rfl sc__law_least.nd (mi_range1 (by rfl) T.z_range (ma_cons (me_var 1) ma_nil)) (blkOk_1 (N := ["rows", "n", "left", "found", "k", "good", "lead", "row", "j"]) (sc0 := defScope s__law_least) (own := [("j", 8)]) rfl (by decide +kernel)) (fun _ _ _ _ _ _ => (mg_name (i := 8) sc__law_least.nd rfl (by first | exact Or.inl rfl | exact Or.inr rfl))) (fun _ _ _ _ _ _ => mts_nil) (fun _ _ _ _ _ _ => (me_op op_subX p_sub (me_op op_mulA (p_mulA rfl) (me_ix ix_seq (p_ix rfl) (me_var 6) (me_var 4) (fun _ _ => rfl)) (me_ix ix_seq (p_ix rfl) (me_var 7) (me_var 8) (fun _ _ => rfl))) (me_op op_mulA (p_mulA rfl) (me_ix ix_seq (p_ix rfl) (me_var 7) (me_var 4) (fun _ _ => rfl)) (me_ix ix_seq (p_ix rfl) (me_var 6) (me_var 8) (fun _ _ => rfl)))))) ma_nil)))) (me_lst (ma_cons (me_call (ok__law_slim T) (hr.mono (by decide)) (by rfl) T.g__law_slim (takes_of rfl rfl rfl rfl) (ma_cons (me_var 6) ma_nil)) ma_nil))))))) ms_nil))))
      (ms_one (ms_ret (me_callTy call_tuple_of (n_tupOf rfl) (by rfl) T.z_tuple (by decide +kernel) (ma_cons (me_var 3) ma_nil))))))), F.kp, F.bindsN fun _ _ _ _ _ _ us hl => match us, hl with | [_, _], _ => rfl⟩
def m__law_row : M Fl := sRet (eN fTupOf (aCons (eLc (iN rg1 (aCons (eV 1) (aNil))) (gNm 2) (tTrue) (eCallB 1 0 f__law_number (aNil)) [2]) (aNil)))
def f__law_row : D → List D → FB := mFnB 3 m__law_row
theorem ok__law_row (T : Txt K mg) : GoodB (CC K) P w K mg base 3 40 2 (f__law_row) := by
  obtain ⟨fd, F⟩ := T.f__law_row
  exact ⟨fd, ["state", "n"], fn_okB F sc__law_row (fun cdv A outer s H E B hr => (ms_one (ms_ret (me_callTy call_tuple_of (n_tupOf rfl) (by rfl) T.z_tuple (by decide +kernel) (ma_cons (me_lc [("k", 2)] rfl sc__law_row.nd (mi_range1 (by rfl) T.z_range (ma_cons (me_var 1) ma_nil)) (blkOk_by (N := ["state", "n", "k"]) (sc := defScope s__law_row) (own := [("k", 2)]) (by decide +kernel)) (fun _ _ _ _ _ _ => (mg_name (i := 2) sc__law_row.nd rfl (by first | exact Or.inl rfl | exact Or.inr rfl))) (fun _ _ _ _ _ _ => mts_nil) (fun _ _ _ _ _ _ => (me_callO 0 (ok__law_number T) (hr.mono (by decide)) (by rfl) T.g__law_number takes0 ma_nil))) ma_nil))))), F.kp, F.bindsN fun _ _ _ _ _ _ us hl => match us, hl with | [_, _], _ => rfl⟩
def m__law_is_space : M Fl := sSeq (sIf (MM.tOr (MM.tNot (tV (eN fIsi (aCons (eV 0) (aCons (eC (.ty .tuple)) (aNil)))))) (MM.tNot (tV (eN fAll (aCons (eLc (iV itS (eV 0)) (gNm 4) (tTrue) (eAnd (eN fIsi (aCons (eV 4) (aCons (eC (.ty .tuple)) (aNil)))) (eAnd (e2 (cmp cEq) (eN fLen (aCons (eV 4) (aNil))) (eV 1)) (eN fAll (aCons (eLc (iV itS (eV 4)) (gNm 6) (tTrue) (eCall 1 f__law_is_whole (aCons (eV 6) (aNil))) [6]) (aNil))))) [4]) (aNil))))))
      (sRet (eC (.bl false))) (sNx))
      (sSeq (sAsg 2 (eLc (iV itS (eV 0)) (gNm 4) (tTrue) (eCall 1 f__law_lead (aCons (eV 4) (aNil))) [4]))
      (sSeq (sFor (iN rg1 (aCons (eN fLen (aCons (eV 0) (aNil))) (aNil))) (gNm 3)
      (sIf (MM.tOr (t2 cEq (e2 fIx (eV 2) (eV 3)) (eV 1)) (MM.tOr (t2 cLt (e2 fIx (e2 fIx (eV 0) (eV 3)) (e2 fIx (eV 2) (eV 3))) (eC (.int 0))) (MM.tOr (t2 cNe (eCall 1 f__law_slim (aCons (e2 fIx (eV 0) (eV 3)) (aNil))) (e2 fIx (eV 0) (eV 3))) (MM.tAnd (t2 cGt (eV 3) (eC (.int 0))) (t2 cLe (e2 fIx (eV 2) (eV 3)) (e2 fIx (eV 2) (e2 fSub (eV 3) (eC (.int 1)))))))))
      (sRet (eC (.bl false))) (sNx)))
      (sRet (eN fAll (aCons (eLc (iN rg1 (aCons (eN fLen (aCons (eV 0) (aNil))) (aNil))) (gNm 3) (tTrue) (eN fAll (aCons (eLc (iN rg1 (aCons (eN fLen (aCons (eV 0) (aNil))) (aNil))) (gNm 5) (t2 cNe (eV 5) (eV 3)) (e2 (cmp cEq) (e2 fIx (e2 fIx (eV 0) (eV 5)) (e2 fIx (eV 2) (eV 3))) (eC (.int 0))) [5]) (aNil))) [3]) (aNil))))))
def f__law_is_space : List D → FO := mFn 7 m__law_is_space
theorem ok__law_is_space (T : Txt K mg) : Good (CC K) P w K mg base 3 42 2 (f__law_is_space) := by
  obtain ⟨fd, F⟩ := T.f__law_is_space
  exact ⟨fd, ["value", "n"], fn_ok F sc__law_is_space (fun cdv A outer s H E B hr => (ms_cons (ms_if (PW.pt (mw_or (mt_not (mt_v rfl (me_callB call_isi (n_isi rfl) (by rfl) T.z_isinstance (by decide +kernel) (ma_cons (me_var 0) (ma_cons (me_ty .tuple (by rfl) T.z_tuple (by decide +kernel)) ma_nil))))) (mw_o1 (mt_not (mt_v rfl (me_callB (cr_all rfl) (n_all rfl) (by rfl) T.z_all (by decide +kernel) (ma_cons (me_lc [("row", 4)] rfl sc__law_is_space.nd (mi_seq rfl (me_var 0)) (blkOk_by (N := ["value", "n", "leads", "k", "row", "i", "c"]) (sc := defScope s__law_is_space) (own := [("row", 4)]) (by decide +kernel)) (fun _ _ _ _ _ _ => (mg_name (i := 4) sc__law_is_space.nd rfl (by first | exact Or.inl rfl | exact Or.inr rfl))) (fun _ _ _ _ _ _ => mts_nil) (fun _ _ _ _ _ _ => (me_and (me_callB call_isi (n_isi rfl) (by rfl) T.z_isinstance (by decide +kernel) (ma_cons (me_var 4) (ma_cons (me_ty .tuple (by rfl) T.z_tuple (by decide +kernel)) ma_nil))) (me_and (me_cmp (op_eqD hr.units) (p_eq rfl) (me_callB cr_lenX (n_len rfl) (by rfl) T.z_len (by decide +kernel) (ma_cons (me_var 4) ma_nil)) (me_var 1) (nomark _)) (me_one (me_callB (cr_all rfl) (n_all rfl) (by rfl) T.z_all (by decide +kernel) (ma_cons (me_lc [("c", 6)] rfl sc__law_is_space.nd (mi_seq rfl (me_var 4)) (blkOk_1 (N := ["value", "n", "leads", "k", "row", "i", "c"]) (sc0 := defScope s__law_is_space) (own := [("c", 6)]) rfl (by decide +kernel)) (fun _ _ _ _ _ _ => (mg_name (i := 6) sc__law_is_space.nd rfl (by first | exact Or.inl rfl | exact Or.inr rfl))) (fun _ _ _ _ _ _ => mts_nil) (fun _ _ _ _ _ _ => (me_call (ok__law_is_whole T) (hr.mono (by decide)) (by rfl) T.g__law_is_whole takes0 (ma_cons (me_var 6) ma_nil)))) ma_nil))))))) ma_nil))))))) (ms_one (ms_ret me_bl)) ms_nil)
      (ms_cons (ms_set (i := 2) sc__law_is_space.nd rfl (by first | exact Or.inl rfl | exact Or.inr rfl) (me_lc [("row", 4)] rfl sc__law_is_space.nd (mi_seq rfl (me_var 0)) (blkOk_by (N := ["value", "n", "leads", "k", "row", "i", "c"]) (sc := defScope s__law_is_space) (own := [("row", 4)]) (by decide +kernel)) (fun _ _ _ _ _ _ => (mg_name (i := 4) sc__law_is_space.nd rfl (by first | exact Or.inl rfl | exact Or.inr rfl))) (fun _ _ _ _ _ _ => mts_nil) (fun _ _ _ _ _ _ => (me_call (ok__law_lead T) (hr.mono (by decide)) (by rfl) T.g__law_lead takes0 (ma_cons (me_var 4) ma_nil)))))
      (ms_cons (ms_for (passes_of rfl) rfl (mi_range1 (by rfl) T.z_range (ma_cons (me_callB cr_lenX (n_len rfl) (by rfl) T.z_len (by decide +kernel) (ma_cons (me_var 0) ma_nil)) ma_nil)) (mg_name (i := 3) sc__law_is_space.nd rfl (by first | exact Or.inl rfl | exact Or.inr rfl)) (ms_one (ms_if (PW.pt (mw_or (mt_cmp (op_eqD hr.units) (p_eq rfl) (me_ix ix_seq (p_ix rfl) (me_var 2) (me_var 3) (fun _ _ => rfl)) (me_var 1) (nomark _)) (mw_or (mt_cmp op_lt p_lt (me_ix ix_seq (p_ix rfl) (me_ix ix_seq (p_ix rfl) (me_var 0) (me_var 3) (fun _ _ => rfl)) (me_ix ix_seq (p_ix rfl) (me_var 2) (me_var 3) (fun _ _ => rfl)) (fun _ _ => rfl)) me_int (nomark _)) (mw_or (mt_cmp (op_neD hr.units) (p_ne rfl) (me_call (ok__law_slim T) (hr.mono (by decide)) (by rfl) T.g__law_slim (takes_of rfl rfl rfl rfl) (ma_cons (me_ix ix_seq (p_ix rfl) (me_var 0) (me_var 3) (fun _ _ => rfl)) ma_nil)) (me_ix ix_seq (p_ix rfl) (me_var 0) (me_var 3) (fun _ _ => rfl)) (nomark _)) (mw_o1 (PW.pt (mw_and (mt_cmp op_gt p_gt (me_var 3) me_int (nomark _)) (mw_1 (mt_cmp op_le p_le (me_ix ix_seq (p_ix rfl) (me_var 2) (me_var 3) (fun _ _ => rfl)) (me_ix ix_seq (p_ix rfl) (me_var 2) (me_op op_subX p_sub (me_var 3) me_int) (fun _ _ => rfl)) (nomark _)))))))))) (ms_one (ms_ret me_bl)) ms_nil)))
      (ms_one (ms_ret (me_callB (cr_all rfl) (n_all rfl) (by rfl) T.z_all (by decide +kernel) (ma_cons (me_lc [("k", 3)] rfl sc__law_is_space.nd (mi_range1 (by rfl) T.z_range (ma_cons (me_callB cr_lenX (n_len rfl) (by rfl) T.z_len (by decide +kernel) (ma_cons (me_var 0) ma_nil)) ma_nil)) (blkOk_by (N := ["value", "n", "leads", "k", "row", "i", "c"]) (sc := defScope s__law_is_space) (own := [("k", 3)]) (by decide +kernel)) (fun _ _ _ _ _ _ => (mg_name (i := 3) sc__law_is_space.nd rfl (by first | exact Or.inl rfl | exact Or.inr rfl))) (fun _ _ _ _ _ _ => mts_nil) (fun _ _ _ _ _ _ => (me_callB (cr_all rfl) (n_all rfl) (by rfl) T.z_all (by decide +kernel) (ma_cons (me_lc [("i", 5)] rfl sc__law_is_space.nd (mi_range1 (by rfl) T.z_range (ma_cons (me_callB cr_lenX (n_len rfl) (by rfl) T.z_len (by decide +kernel) (ma_cons (me_var 0) ma_nil)) ma_nil)) (blkOk_1 (N := ["value", "n", "leads", "k", "row", "i", "c"]) (sc0 := defScope s__law_is_space) (own := [("i", 5)]) rfl (by decide +kernel)) (fun _ _ _ _ _ _ => (mg_name (i := 5) sc__law_is_space.nd rfl (by first | exact Or.inl rfl | exact Or.inr rfl))) (fun _ _ _ _ _ _ => (mts_one (mt_cmp (op_neD hr.units) (p_ne rfl) (me_var 5) (me_var 3) (nomark _)))) (fun _ _ _ _ _ _ => (me_cmp (op_eqD hr.units) (p_eq rfl) (me_ix ix_seq (p_ix rfl) (me_ix ix_seq (p_ix rfl) (me_var 0) (me_var 5) (fun _ _ => rfl)) (me_ix ix_seq (p_ix rfl) (me_var 2) (me_var 3) (fun _ _ => rfl)) (fun _ _ => rfl)) me_int (nomark _)))) ma_nil)))) ma_nil)))))))), F.kp, F.bindsN fun _ _ _ _ _ _ us hl => match us, hl with | [_, _], _ => rfl⟩
def m_check_rows : M Fl := sSeq (sDrop (eCall 3 f_check_from (aCons (eV 1) (aCons (eC (.int 0)) (aCons (eC (.int 256)) (aNil))))))
      (sIf (MM.tNot (tV (eCall 2 f_is_rows (aCons (eV 0) (aCons (eV 1) (aNil))))))
      (sRaise ⟨1, none⟩) (sNx))
def f_check_rows : List D → FO := mFn 2 m_check_rows
theorem ok_check_rows (T : Txt K mg) : Good (CC K) P w K mg base 4 11 2 (f_check_rows) := by
  obtain ⟨fd, F⟩ := T.f_check_rows
  exact ⟨fd, ["value", "n"], fn_ok F sc_check_rows (fun cdv A outer s H E B hr => (ms_cons (ms_expr (me_call (ok_check_from T) (hr.mono (by decide)) (by rfl) T.g_check_from (takes_of rfl rfl rfl rfl) (ma_cons (me_var 1) (ma_cons me_int (ma_cons (me_gint (by rfl) T.k_MOST_WIDE) ma_nil)))))
      (ms_one (ms_if (mt_not (mt_v rfl (me_call (ok_is_rows T) (hr.mono (by decide)) (by rfl) T.g_is_rows (takes_of rfl rfl rfl rfl) (ma_cons (me_var 0) (ma_cons (me_var 1) ma_nil))))) (ms_one (ms_raise rfl (takes_of rfl rfl rfl rfl) T.x_Malformed.e.1 T.g_Malformed T.x_Malformed.e.2.1 T.x_Malformed.raises (by rfl))) ms_nil)))), F.kp, F.bindsN fun _ _ _ _ _ _ us hl => match us, hl with | [_, _], _ => rfl⟩
def m_cleared : M Fl := sSeq (sIf (t2 cEq (e2 fIx (eV 0) (eV 2)) (eC (.int 0)))
      (sRet (eGive 0)) (sNx))
      (sSeq (sAsgG (gTp 2 (gsCons (gNm 3) (gsCons (gNm 4) (gsNil)))) (eN fTup (aCons (e2 fIx (eV 1) (eV 2)) (aCons (e2 fIx (eV 0) (eV 2)) (aNil)))))
      (sRet (eCall 1 f_slim (aCons (eLc (iN zipD (aCons (eV 0) (aCons (eV 1) (aNil)))) (gTp 2 (gsCons (gNm 5) (gsCons (gNm 6) (gsNil)))) (tTrue) (e2 fSub (e2 fMul (eV 3) (eV 5)) (e2 fMul (eV 4) (eV 6))) [5, 6]) (aNil)))))
def f_cleared : List D → FO := mFn 7 m_cleared
theorem ok_cleared (T : Txt K mg) : Good (CC K) P w K mg base 4 14 3 (f_cleared) := by
  obtain ⟨fd, F⟩ := T.f_cleared
  exact ⟨fd, ["row", "lead", "k"], fn_ok F sc_cleared (fun cdv A outer s H E B hr => (ms_cons (ms_if (mt_cmp (op_eqD hr.units) (p_eq rfl) (me_ix ix_seq (p_ix rfl) (me_var 0) (me_var 2) (fun _ _ => rfl)) me_int (nomark _)) (ms_one (ms_ret (me_give 0))) ms_nil)
      (ms_cons (ms_asg (me_tup (ma_cons (me_ix ix_seq (p_ix rfl) (me_var 1) (me_var 2) (fun _ _ => rfl)) (ma_cons (me_ix ix_seq (p_ix rfl) (me_var 0) (me_var 2) (fun _ _ => rfl)) ma_nil))) (mg_tup rfl rfl (mgs_cons (mg_name (i := 3) sc_cleared.nd rfl (by first | exact Or.inl rfl | exact Or.inr rfl)) (mgs_cons (mg_name (i := 4) sc_cleared.nd rfl (by first | exact Or.inl rfl | exact Or.inr rfl)) mgs_nil))))
      (ms_one (ms_ret (me_call (ok_slim T) (hr.mono (by decide)) (by rfl) T.g_slim (takes_of rfl rfl rfl rfl) (ma_cons (me_lc [("x", 5), ("y", 6)] rfl sc_cleared.nd (mi_zip rfl (by rfl) T.z_zip (ma_cons (me_var 0) (ma_cons (me_var 1) ma_nil))) (blkOk_by (N := ["row", "lead", "k", "a", "b", "x", "y"]) (sc := defScope s_cleared) (own := [("x", 5), ("y", 6)]) (by decide +kernel)) (fun _ _ _ _ _ _ => (mg_tup rfl rfl (mgs_cons (mg_name (i := 5) sc_cleared.nd rfl (by first | exact Or.inl rfl | exact Or.inr rfl)) (mgs_cons (mg_name (i := 6) sc_cleared.nd rfl (by first | exact Or.inl rfl | exact Or.inr rfl)) mgs_nil)))) (fun _ _ _ _ _ _ => mts_nil) (fun _ _ _ _ _ _ => (me_op op_subX p_sub (me_op op_mulA (p_mulA rfl) (me_var 3) (me_var 5)) (me_op op_mulA (p_mulA rfl) (me_var 4) (me_var 6))))) ma_nil))))))), F.kp, F.bindsN fun _ _ _ _ _ _ us hl => match us, hl with | [_, _, _], _ => rfl⟩
def m__law_rank : M Fl := sRet (eN fLen (aCons (eCall 2 f__law_least (aCons (eV 0) (aCons (eV 1) (aNil)))) (aNil)))
def f__law_rank : List D → FO := mFn 2 m__law_rank
theorem ok__law_rank (T : Txt K mg) : Good (CC K) P w K mg base 4 37 2 (f__law_rank) := by
  obtain ⟨fd, F⟩ := T.f__law_rank
  exact ⟨fd, ["rows", "n"], fn_ok F sc__law_rank (fun cdv A outer s H E B hr => (ms_one (ms_ret (me_callB cr_lenX (n_len rfl) (by rfl) T.z_len (by decide +kernel) (ma_cons (me_call (ok__law_least T) (hr.mono (by decide)) (by rfl) T.g__law_least (takes_of rfl rfl rfl rfl) (ma_cons (me_var 0) (ma_cons (me_var 1) ma_nil))) ma_nil))))), F.kp, F.bindsN fun _ _ _ _ _ _ us hl => match us, hl with | [_, _], _ => rfl⟩
def m__law_drawn_rows : M Fl := sSeq (sAsg 2 (eLc (iN rg1 (aCons (eCallB 2 0 f__law_take (aCons (eC (.int 4)) (aNil))) (aNil))) (gNm 3) (tTrue) (eCallB 2 0 f__law_row (aCons (eV 1) (aNil))) [3]))
      (sSeq (sIf (MM.tAnd (t2 cGt (eAlt (isOwn 2) (eLenO 2) (eN fLen (aCons (eV 2) (aNil)))) (eC (.int 1))) (t2 cEq (eCallB 2 0 f__law_take (aCons (eC (.int 2)) (aNil))) (eC (.int 0))))
      (sDrop (eOwn 2 isLst fAppend (aCons (eN fTupOf (aCons (eLc (iN rg1 (aCons (eV 1) (aNil))) (gNm 3) (tTrue) (e2 fSub (e2 fMul (eC (.int 2)) (e2 fIx (eAlt (isOwn 2) (eIxO 2 (eC (.int 0))) (e2 fIx (eV 2) (eC (.int 0)))) (eV 3))) (e2 fIx (eAlt (isOwn 2) (eIxO 2 (eC (.int 1))) (e2 fIx (eV 2) (eC (.int 1)))) (eV 3))) [3]) (aNil))) (aNil)))) (sNx))
      (sSeq (sIf (t2 cEq (eCallB 2 0 f__law_take (aCons (eC (.int 3)) (aNil))) (eC (.int 0)))
      (sDrop (eOwn 2 isLst fAppend (aCons (e2 fMul (eN fTup (aCons (eC (.int 0)) (aNil))) (eV 1)) (aNil)))) (sNx))
      (sRet (eGive 2))))
def f__law_drawn_rows : D → List D → FB := mFnB 4 m__law_drawn_rows
theorem ok__law_drawn_rows (T : Txt K mg) : GoodB (CC K) P w K mg base 4 43 2 (f__law_drawn_rows) := by
  obtain ⟨fd, F⟩ := T.f__law_drawn_rows
  exact ⟨fd, ["state", "n"], fn_okB F sc__law_drawn_rows (fun cdv A outer s H E B hr => (ms_cons (ms_set (i := 2) sc__law_drawn_rows.nd rfl (by first | exact Or.inl rfl | exact Or.inr rfl) (me_lc [("k", 3)] rfl sc__law_drawn_rows.nd (mi_range1 (by rfl) T.z_range (ma_cons (me_callO 0 (ok__law_take T) (hr.mono (by decide)) (by rfl) T.g__law_take (takes_of rfl rfl rfl rfl) (ma_cons me_int ma_nil)) ma_nil)) (blkOk_by (N := ["state", "n", "rows", "k"]) (sc := defScope s__law_drawn_rows) (own := [("k", 3)]) (by decide +kernel)) (fun _ _ _ _ _ _ => (mg_name (i := 3) sc__law_drawn_rows.nd rfl (by first | exact Or.inl rfl | exact Or.inr rfl))) (fun _ _ _ _ _ _ => mts_nil) (fun _ _ _ _ _ _ => (me_callO 0 (ok__law_row T) (hr.mono (by decide)) (by rfl) T.g__law_row takes0 (ma_cons (me_var 1) ma_nil)))))
      (ms_cons (ms_if (PW.pt (mw_and (mt_cmp op_gt p_gt (me_alt (me_lenO rfl 2 (by rfl) T.z_len) (me_callB cr_lenX (n_len rfl) (by rfl) T.z_len (by decide +kernel) (ma_cons (me_var 2) ma_nil))) me_int (nomark _)) (mw_1 (mt_cmp (op_eqD hr.units) (p_eq rfl) (me_callO 0 (ok__law_take T) (hr.mono (by decide)) (by rfl) T.g__law_take (takes_of rfl rfl rfl rfl) (ma_cons me_int ma_nil)) me_int (nomark _))))) (ms_one (ms_expr (me_own 2 PySem.F.plainAttrs_list PySem.F.slot_list_append PySem.F.type_list_append mt_append (fun _ _ _ _ o h => ty_list o h) own_append (ma_cons (me_callTy call_tuple_of (n_tupOf rfl) (by rfl) T.z_tuple (by decide +kernel) (ma_cons (me_lc [("k", 3)] rfl sc__law_drawn_rows.nd (mi_range1 (by rfl) T.z_range (ma_cons (me_var 1) ma_nil)) (blkOk_by (N := ["state", "n", "rows", "k"]) (sc := defScope s__law_drawn_rows) (own := [("k", 3)]) (by decide +kernel)) (fun _ _ _ _ _ _ => (mg_name (i := 3) sc__law_drawn_rows.nd rfl (by first | exact Or.inl rfl | exact Or.inr rfl))) (fun _ _ _ _ _ _ => mts_nil) (fun _ _ _ _ _ _ => (me_op op_subX p_sub (me_op op_mulA (p_mulA rfl) me_int (me_ix ix_seq (p_ix rfl) (me_alt (me_ixO rfl 2 me_int (fun _ _ => rfl)) (me_ix ix_seq (p_ix rfl) (me_var 2) me_int (fun _ _ => rfl))) (me_var 3) (fun _ _ => rfl))) (me_ix ix_seq (p_ix rfl) (me_alt (me_ixO rfl 2 me_int (fun _ _ => rfl)) (me_ix ix_seq (p_ix rfl) (me_var 2) me_int (fun _ _ => rfl))) (me_var 3) (fun _ _ => rfl))))) ma_nil)) ma_nil)))) ms_nil)
      (ms_cons (ms_if (mt_cmp (op_eqD hr.units) (p_eq rfl) (me_callO 0 (ok__law_take T) (hr.mono (by decide)) (by rfl) T.g__law_take (takes_of rfl rfl rfl rfl) (ma_cons me_int ma_nil)) me_int (nomark _)) (ms_one (ms_expr (me_own 2 PySem.F.plainAttrs_list PySem.F.slot_list_append PySem.F.type_list_append mt_append (fun _ _ _ _ o h => ty_list o h) own_append (ma_cons (me_op op_mulA (p_mulA rfl) (me_tup (ma_cons me_int ma_nil)) (me_var 1)) ma_nil)))) ms_nil)
      (ms_one (ms_ret (me_give 2))))))), F.kp, F.bindsN fun _ _ _ _ _ _ us hl => match us, hl with | [_, _], _ => rfl⟩
def m_space_of : M Fl := sSeq (sDrop (eCall 2 f_check_rows (aCons (eV 0) (aCons (eV 1) (aNil)))))
      (sSeq (sAsg 2 (eLc (iV itS (eV 0)) (gNm 7) (t2 cLt (eCall 1 f_lead_of (aCons (eV 7) (aNil))) (eV 1)) (eCall 1 f_slim (aCons (eV 7) (aNil))) [7]))
      (sSeq (sAsg 3 (eN fLst (aNil)))
      (sSeq (sFor (iN rg1 (aCons (eV 1) (aNil))) (gNm 4)
      (sSeq (sAsg 5 (eLcO 2 enumO (gTp 2 (gsCons (gNm 8) (gsCons (gNm 7) (gsNil)))) (t2 cNe (e2 fIx (eV 7) (eV 4)) (eC (.int 0))) (eV 8) [8, 7]))
      (sIf (t2 cGt (eN fLen (aCons (eV 5) (aNil))) (eC (.int 0)))
      (sSeq (sAsg 6 (eOwn 2 isLst fPopA (aCons (e2 fIx (eV 5) (eC (.int 0))) (aNil))))
      (sSeq (sAsg 2 (eLcO 2 some (gNm 7) (tTrue) (eCall 3 f_cleared (aCons (eV 7) (aCons (eV 6) (aCons (eV 4) (aNil))))) [7]))
      (sSeq (sAsg 2 (eLcO 2 some (gNm 7) (t2 cLt (eCall 1 f_lead_of (aCons (eV 7) (aNil))) (eV 1)) (eV 7) [7]))
      (sSeq (sAsg 3 (eLcO 3 some (gNm 7) (tTrue) (eCall 3 f_cleared (aCons (eV 7) (aCons (eV 6) (aCons (eV 4) (aNil))))) [7]))
      (sDrop (eOwn 3 isLst fAppend (aCons (eV 6) (aNil)))))))) (sNx))))
      (sRet (eN fTupOf (aCons (eLcO 3 some (gNm 7) (tTrue) (eCall 1 f_slim (aCons (eV 7) (aNil))) [7]) (aNil)))))))
def f_space_of : List D → FO := mFn 9 m_space_of
theorem ok_space_of (T : Txt K mg) : Good (CC K) P w K mg base 5 15 2 (f_space_of) := by
  obtain ⟨fd, F⟩ := T.f_space_of
  exact ⟨fd, ["rows", "n"], fn_ok F sc_space_of (fun cdv A outer s H E B hr => (ms_cons (ms_expr (me_call (ok_check_rows T) (hr.mono (by decide)) (by rfl) T.g_check_rows (takes_of rfl rfl rfl rfl) (ma_cons (me_var 0) (ma_cons (me_var 1) ma_nil))))
      (ms_cons (ms_setLc (i := 2) [("row", 7)] rfl sc_space_of.nd rfl rfl (sw_true rfl rfl rfl (by decide +kernel)) (mi_seq rfl (me_var 0)) (blkOk_by (N := ["rows", "n", "left", "found", "k", "good", "lead", "row", "i"]) (sc := defScope s_space_of) (own := [("row", 7)]) (by decide +kernel)) (fun _ _ _ _ _ _ => (mg_name (i := 7) sc_space_of.nd rfl (by first | exact Or.inl rfl | exact Or.inr rfl))) (fun _ _ _ _ _ _ => (mts_one (mt_cmp op_lt p_lt (me_call (ok_lead_of T) (hr.mono (by decide)) (by rfl) T.g_lead_of takes0 (ma_cons (me_var 7) ma_nil)) (me_var 1) (nomark _)))) (fun _ _ _ _ _ _ => (me_call (ok_slim T) (hr.mono (by decide)) (by rfl) T.g_slim takes0 (ma_cons (me_var 7) ma_nil))))
      (ms_cons (ms_set (i := 3) sc_space_of.nd rfl (by first | exact Or.inl rfl | exact Or.inr rfl) (me_lst ma_nil))
      (ms_cons (ms_for (passes_of rfl) rfl (mi_range1 (by rfl) T.z_range (ma_cons (me_var 1) ma_nil)) (mg_name (i := 4) sc_space_of.nd rfl (by first | exact Or.inl rfl | exact Or.inr rfl)) (ms_cons (ms_setLcO goO_enum (k := 5) [("i", 8), ("row", 7)] rfl sc_space_of.nd rfl rfl (sw_true rfl rfl rfl (by decide +kernel)) (pi_enumO rfl (by rfl) T.z_enumerate) (blkOk_by (N := ["rows", "n", "left", "found", "k", "good", "lead", "row", "i"]) (sc := defScope s_space_of) (own := [("i", 8), ("row", 7)]) (by decide +kernel)) (fun _ _ _ _ _ _ => (mg_tup rfl rfl (mgs_cons (mg_name (i := 8) sc_space_of.nd rfl (by first | exact Or.inl rfl | exact Or.inr rfl)) (mgs_cons (mg_name (i := 7) sc_space_of.nd rfl (by first | exact Or.inl rfl | exact Or.inr rfl)) mgs_nil)))) (fun _ _ _ _ _ _ => (mts_one (mt_cmp (op_neD hr.units) (p_ne rfl) (me_ix ix_seq (p_ix rfl) (me_var 7) (me_var 4) (fun _ _ => rfl)) me_int (nomark _)))) (fun _ _ _ _ _ _ => (me_var 8)))
      (ms_one (ms_if (mt_cmp op_gt p_gt (me_callB cr_lenX (n_len rfl) (by rfl) T.z_len (by decide +kernel) (ma_cons (me_var 5) ma_nil)) me_int (nomark _)) (ms_cons (ms_set (i := 6) sc_space_of.nd rfl (by first | exact Or.inl rfl | exact Or.inr rfl) (me_own 2 PySem.F.plainAttrs_list PySem.F.slot_list_pop PySem.F.type_list_pop mt_popAt (fun _ _ _ _ o h => ty_list o h) own_popAt (ma_cons (me_ix ix_seq (p_ix rfl) (me_var 5) me_int (fun _ _ => rfl)) ma_nil)))
      (ms_cons (ms_setLcO goO_list (k := 2) [("row", 7)] rfl sc_space_of.nd rfl rfl (sw_true rfl rfl rfl (by decide +kernel)) (pi_varO rfl) (blkOk_by (N := ["rows", "n", "left", "found", "k", "good", "lead", "row", "i"]) (sc := defScope s_space_of) (own := [("row", 7)]) (by decide +kernel)) (fun _ _ _ _ _ _ => (mg_name (i := 7) sc_space_of.nd rfl (by first | exact Or.inl rfl | exact Or.inr rfl))) (fun _ _ _ _ _ _ => mts_nil) (fun _ _ _ _ _ _ => (me_call (ok_cleared T) (hr.mono (by decide)) (by rfl) T.g_cleared takes0 (ma_cons (me_var 7) (ma_cons (me_var 6) (ma_cons (me_var 4) ma_nil))))))
      (ms_cons (ms_setLcO goO_list (k := 2) [("row", 7)] rfl sc_space_of.nd rfl rfl (sw_true rfl rfl rfl (by decide +kernel)) (pi_varO rfl) (blkOk_by (N := ["rows", "n", "left", "found", "k", "good", "lead", "row", "i"]) (sc := defScope s_space_of) (own := [("row", 7)]) (by decide +kernel)) (fun _ _ _ _ _ _ => (mg_name (i := 7) sc_space_of.nd rfl (by first | exact Or.inl rfl | exact Or.inr rfl))) (fun _ _ _ _ _ _ => (mts_one (mt_cmp op_lt p_lt (me_call (ok_lead_of T) (hr.mono (by decide)) (by rfl) T.g_lead_of takes0 (ma_cons (me_var 7) ma_nil)) (me_var 1) (nomark _)))) (fun _ _ _ _ _ _ => (me_var 7)))
      (ms_cons (ms_setLcO goO_list (k := 3) [("row", 7)] rfl sc_space_of.nd rfl rfl (sw_true rfl rfl rfl (by decide +kernel)) (pi_varO rfl) (blkOk_by (N := ["rows", "n", "left", "found", "k", "good", "lead", "row", "i"]) (sc := defScope s_space_of) (own := [("row", 7)]) (by decide +kernel)) (fun _ _ _ _ _ _ => (mg_name (i := 7) sc_space_of.nd rfl (by first | exact Or.inl rfl | exact Or.inr rfl))) (fun _ _ _ _ _ _ => mts_nil) (fun _ _ _ _ _ _ => (me_call (ok_cleared T) (hr.mono (by decide)) (by rfl) T.g_cleared takes0 (ma_cons (me_var 7) (ma_cons (me_var 6) (ma_cons (me_var 4) ma_nil))))))
      (ms_one (ms_expr (me_own 3 PySem.F.plainAttrs_list PySem.F.slot_list_append PySem.F.type_list_append mt_append (fun _ _ _ _ o h => ty_list o h) own_append (ma_cons (me_var 6) ma_nil)))))))) ms_nil))))
      (ms_one (ms_ret (me_callTy call_tuple_of (n_tupOf rfl) (by rfl) T.z_tuple (by decide +kernel) (ma_cons (me_lcO goO_list [("row", 7)] rfl sc_space_of.nd (pi_varO rfl) (blkOk_by (N := ["rows", "n", "left", "found", "k", "good", "lead", "row", "i"]) (sc := defScope s_space_of) (own := [("row", 7)]) (by decide +kernel)) (fun _ _ _ _ _ _ => (mg_name (i := 7) sc_space_of.nd rfl (by first | exact Or.inl rfl | exact Or.inr rfl))) (fun _ _ _ _ _ _ => mts_nil) (fun _ _ _ _ _ _ => (me_call (ok_slim T) (hr.mono (by decide)) (by rfl) T.g_slim takes0 (ma_cons (me_var 7) ma_nil)))) ma_nil))))))))), F.kp, F.bindsN fun _ _ _ _ _ _ us hl => match us, hl with | [_, _], _ => rfl⟩
def m_rest_of : M Fl := sSeq (sAsg 2 (eN fTupOf (aCons (eV 0) (aNil))))
      (sSeq (sFor (iV itS (eV 1)) (gNm 3)
      (sAsg 2 (eCall 3 f_cleared (aCons (eV 2) (aCons (eV 3) (aCons (eCall 1 f_lead_of (aCons (eV 3) (aNil))) (aNil)))))))
      (sRet (eGive 2)))
def f_rest_of : List D → FO := mFn 4 m_rest_of
theorem ok_rest_of (T : Txt K mg) : Good (CC K) P w K mg base 5 19 2 (f_rest_of) := by
  obtain ⟨fd, F⟩ := T.f_rest_of
  exact ⟨fd, ["row", "space"], fn_ok F sc_rest_of (fun cdv A outer s H E B hr => (ms_cons (ms_set (i := 2) sc_rest_of.nd rfl (by first | exact Or.inl rfl | exact Or.inr rfl) (me_callTy call_tuple_of (n_tupOf rfl) (by rfl) T.z_tuple (by decide +kernel) (ma_cons (me_var 0) ma_nil)))
      (ms_cons (ms_for (passes_of rfl) rfl (mi_seq rfl (me_var 1)) (mg_name (i := 3) sc_rest_of.nd rfl (by first | exact Or.inl rfl | exact Or.inr rfl)) (ms_one (ms_set (i := 2) sc_rest_of.nd rfl (by first | exact Or.inl rfl | exact Or.inr rfl) (me_call (ok_cleared T) (hr.mono (by decide)) (by rfl) T.g_cleared (takes_of rfl rfl rfl rfl) (ma_cons (me_var 2) (ma_cons (me_var 3) (ma_cons (me_call (ok_lead_of T) (hr.mono (by decide)) (by rfl) T.g_lead_of (takes_of rfl rfl rfl rfl) (ma_cons (me_var 3) ma_nil)) ma_nil)))))))
      (ms_one (ms_ret (me_give 2)))))), F.kp, F.bindsN fun _ _ _ _ _ _ us hl => match us, hl with | [_, _], _ => rfl⟩
def m__law_within : M Fl := sRet (e2 (cmp cEq) (eCall 2 f__law_rank (aCons (e2 fAdd (eN fLstOf (aCons (eV 1) (aNil))) (eN fLst (aCons (eV 0) (aNil)))) (aCons (eV 2) (aNil)))) (eCall 2 f__law_rank (aCons (eV 1) (aCons (eV 2) (aNil)))))
def f__law_within : List D → FO := mFn 3 m__law_within
theorem ok__law_within (T : Txt K mg) : Good (CC K) P w K mg base 5 38 3 (f__law_within) := by
  obtain ⟨fd, F⟩ := T.f__law_within
  exact ⟨fd, ["row", "rows", "n"], fn_ok F sc__law_within (fun cdv A outer s H E B hr => (ms_one (ms_ret (me_cmp (op_eqD hr.units) (p_eq rfl) (me_call (ok__law_rank T) (hr.mono (by decide)) (by rfl) T.g__law_rank (takes_of rfl rfl rfl rfl) (ma_cons (me_op op_addX (p_add rfl) (me_callTy call_list_of (n_lstOf rfl) (by rfl) T.z_list (by decide +kernel) (ma_cons (me_var 1) ma_nil)) (me_lst (ma_cons (me_var 0) ma_nil))) (ma_cons (me_var 2) ma_nil))) (me_call (ok__law_rank T) (hr.mono (by decide)) (by rfl) T.g__law_rank (takes_of rfl rfl rfl rfl) (ma_cons (me_var 1) (ma_cons (me_var 2) ma_nil))) (nomark _))))), F.kp, F.bindsN fun _ _ _ _ _ _ us hl => match us, hl with | [_, _, _], _ => rfl⟩
def m_is_space : M Fl := sRet (eAnd (eN fIsi (aCons (eV 0) (aCons (eC (.ty .tuple)) (aNil)))) (eAnd (eCall 2 f_is_rows (aCons (eV 0) (aCons (eV 1) (aNil)))) (e2 (cmp cEq) (eCall 2 f_space_of (aCons (eV 0) (aCons (eV 1) (aNil)))) (eV 0))))
def f_is_space : List D → FO := mFn 2 m_is_space
theorem ok_is_space (T : Txt K mg) : Good (CC K) P w K mg base 6 16 2 (f_is_space) := by
  obtain ⟨fd, F⟩ := T.f_is_space
  exact ⟨fd, ["value", "n"], fn_ok F sc_is_space (fun cdv A outer s H E B hr => (ms_one (ms_ret (me_and (me_callB call_isi (n_isi rfl) (by rfl) T.z_isinstance (by decide +kernel) (ma_cons (me_var 0) (ma_cons (me_ty .tuple (by rfl) T.z_tuple (by decide +kernel)) ma_nil))) (me_and (me_call (ok_is_rows T) (hr.mono (by decide)) (by rfl) T.g_is_rows (takes_of rfl rfl rfl rfl) (ma_cons (me_var 0) (ma_cons (me_var 1) ma_nil))) (me_one (me_cmp (op_eqD hr.units) (p_eq rfl) (me_call (ok_space_of T) (hr.mono (by decide)) (by rfl) T.g_space_of (takes_of rfl rfl rfl rfl) (ma_cons (me_var 0) (ma_cons (me_var 1) ma_nil))) (me_var 0) (nomark _)))))))), F.kp, F.bindsN fun _ _ _ _ _ _ us hl => match us, hl with | [_, _], _ => rfl⟩
def m_rank_of : M Fl := sRet (eN fLen (aCons (eCall 2 f_space_of (aCons (eV 0) (aCons (eV 1) (aNil)))) (aNil)))
def f_rank_of : List D → FO := mFn 2 m_rank_of
theorem ok_rank_of (T : Txt K mg) : Good (CC K) P w K mg base 6 22 2 (f_rank_of) := by
  obtain ⟨fd, F⟩ := T.f_rank_of
  exact ⟨fd, ["rows", "n"], fn_ok F sc_rank_of (fun cdv A outer s H E B hr => (ms_one (ms_ret (me_callB cr_lenX (n_len rfl) (by rfl) T.z_len (by decide +kernel) (ma_cons (me_call (ok_space_of T) (hr.mono (by decide)) (by rfl) T.g_space_of (takes_of rfl rfl rfl rfl) (ma_cons (me_var 0) (ma_cons (me_var 1) ma_nil))) ma_nil))))), F.kp, F.bindsN fun _ _ _ _ _ _ us hl => match us, hl with | [_, _], _ => rfl⟩
def m_check_space : M Fl := sSeq (sDrop (eCall 3 f_check_from (aCons (eV 1) (aCons (eC (.int 0)) (aCons (eC (.int 256)) (aNil))))))
      (sIf (MM.tNot (tV (eCall 2 f_is_space (aCons (eV 0) (aCons (eV 1) (aNil))))))
      (sRaise ⟨1, none⟩) (sNx))
def f_check_space : List D → FO := mFn 2 m_check_space
theorem ok_check_space (T : Txt K mg) : Good (CC K) P w K mg base 7 17 2 (f_check_space) := by
  obtain ⟨fd, F⟩ := T.f_check_space
  exact ⟨fd, ["value", "n"], fn_ok F sc_check_space (fun cdv A outer s H E B hr => (ms_cons (ms_expr (me_call (ok_check_from T) (hr.mono (by decide)) (by rfl) T.g_check_from (takes_of rfl rfl rfl rfl) (ma_cons (me_var 1) (ma_cons me_int (ma_cons (me_gint (by rfl) T.k_MOST_WIDE) ma_nil)))))
      (ms_one (ms_if (mt_not (mt_v rfl (me_call (ok_is_space T) (hr.mono (by decide)) (by rfl) T.g_is_space (takes_of rfl rfl rfl rfl) (ma_cons (me_var 0) (ma_cons (me_var 1) ma_nil))))) (ms_one (ms_raise rfl (takes_of rfl rfl rfl rfl) T.x_Malformed.e.1 T.g_Malformed T.x_Malformed.e.2.1 T.x_Malformed.raises (by rfl))) ms_nil)))), F.kp, F.bindsN fun _ _ _ _ _ _ us hl => match us, hl with | [_, _], _ => rfl⟩
def m_is_within : M Fl := sSeq (sDrop (eCall 2 f_check_row (aCons (eV 0) (aCons (eV 2) (aNil)))))
      (sSeq (sDrop (eCall 2 f_check_space (aCons (eV 1) (aCons (eV 2) (aNil)))))
      (sRet (e2 (cmp cEq) (eCall 2 f_rest_of (aCons (eV 0) (aCons (eV 1) (aNil)))) (e2 fMul (eN fTup (aCons (eC (.int 0)) (aNil))) (eV 2)))))
def f_is_within : List D → FO := mFn 3 m_is_within
theorem ok_is_within (T : Txt K mg) : Good (CC K) P w K mg base 8 18 3 (f_is_within) := by
  obtain ⟨fd, F⟩ := T.f_is_within
  exact ⟨fd, ["row", "space", "n"], fn_ok F sc_is_within (fun cdv A outer s H E B hr => (ms_cons (ms_expr (me_call (ok_check_row T) (hr.mono (by decide)) (by rfl) T.g_check_row (takes_of rfl rfl rfl rfl) (ma_cons (me_var 0) (ma_cons (me_var 2) ma_nil))))
      (ms_cons (ms_expr (me_call (ok_check_space T) (hr.mono (by decide)) (by rfl) T.g_check_space (takes_of rfl rfl rfl rfl) (ma_cons (me_var 1) (ma_cons (me_var 2) ma_nil))))
      (ms_one (ms_ret (me_cmp (op_eqD hr.units) (p_eq rfl) (me_call (ok_rest_of T) (hr.mono (by decide)) (by rfl) T.g_rest_of (takes_of rfl rfl rfl rfl) (ma_cons (me_var 0) (ma_cons (me_var 1) ma_nil))) (me_op op_mulA (p_mulA rfl) (me_tup (ma_cons me_int ma_nil)) (me_var 2)) (nomark _))))))), F.kp, F.bindsN fun _ _ _ _ _ _ us hl => match us, hl with | [_, _, _], _ => rfl⟩
def m_is_part : M Fl := sSeq (sDrop (eCall 2 f_check_space (aCons (eV 0) (aCons (eV 2) (aNil)))))
      (sSeq (sDrop (eCall 2 f_check_space (aCons (eV 1) (aCons (eV 2) (aNil)))))
      (sRet (eN fAll (aCons (eLc (iV itS (eV 0)) (gNm 3) (tTrue) (e2 (cmp cEq) (eCall 1 f_lead_of (aCons (eCall 2 f_rest_of (aCons (eV 3) (aCons (eV 1) (aNil)))) (aNil))) (eV 2)) [3]) (aNil)))))
def f_is_part : List D → FO := mFn 4 m_is_part
theorem ok_is_part (T : Txt K mg) : Good (CC K) P w K mg base 8 20 3 (f_is_part) := by
  obtain ⟨fd, F⟩ := T.f_is_part
  exact ⟨fd, ["one", "two", "n"], fn_ok F sc_is_part (fun cdv A outer s H E B hr => (ms_cons (ms_expr (me_call (ok_check_space T) (hr.mono (by decide)) (by rfl) T.g_check_space (takes_of rfl rfl rfl rfl) (ma_cons (me_var 0) (ma_cons (me_var 2) ma_nil))))
      (ms_cons (ms_expr (me_call (ok_check_space T) (hr.mono (by decide)) (by rfl) T.g_check_space (takes_of rfl rfl rfl rfl) (ma_cons (me_var 1) (ma_cons (me_var 2) ma_nil))))
      (ms_one (ms_ret (me_callB (cr_all rfl) (n_all rfl) (by rfl) T.z_all (by decide +kernel) (ma_cons (me_lc [("row", 3)] rfl sc_is_part.nd (mi_seq rfl (me_var 0)) (blkOk_by (N := ["one", "two", "n", "row"]) (sc := defScope s_is_part) (own := [("row", 3)]) (by decide +kernel)) (fun _ _ _ _ _ _ => (mg_name (i := 3) sc_is_part.nd rfl (by first | exact Or.inl rfl | exact Or.inr rfl))) (fun _ _ _ _ _ _ => mts_nil) (fun _ _ _ _ _ _ => (me_cmp (op_eqD hr.units) (p_eq rfl) (me_call (ok_lead_of T) (hr.mono (by decide)) (by rfl) T.g_lead_of takes0 (ma_cons (me_call (ok_rest_of T) (hr.mono (by decide)) (by rfl) T.g_rest_of takes0 (ma_cons (me_var 3) (ma_cons (me_var 1) ma_nil))) ma_nil)) (me_var 2) (nomark _)))) ma_nil))))))), F.kp, F.bindsN fun _ _ _ _ _ _ us hl => match us, hl with | [_, _, _], _ => rfl⟩
def m_free_places : M Fl := sSeq (sDrop (eCall 2 f_check_space (aCons (eV 0) (aCons (eV 1) (aNil)))))
      (sSeq (sAsg 2 (eLc (iV itS (eV 0)) (gNm 3) (tTrue) (eCall 1 f_lead_of (aCons (eV 3) (aNil))) [3]))
      (sRet (eN fTupOf (aCons (eLc (iN rg1 (aCons (eV 1) (aNil))) (gNm 4) (t2 cNotIn (eV 4) (eV 2)) (eV 4) [4]) (aNil)))))
def f_free_places : List D → FO := mFn 5 m_free_places
theorem ok_free_places (T : Txt K mg) : Good (CC K) P w K mg base 8 23 2 (f_free_places) := by
  obtain ⟨fd, F⟩ := T.f_free_places
  exact ⟨fd, ["space", "n"], fn_ok F sc_free_places (fun cdv A outer s H E B hr => (ms_cons (ms_expr (me_call (ok_check_space T) (hr.mono (by decide)) (by rfl) T.g_check_space (takes_of rfl rfl rfl rfl) (ma_cons (me_var 0) (ma_cons (me_var 1) ma_nil))))
      (ms_cons (ms_set (i := 2) sc_free_places.nd rfl (by first | exact Or.inl rfl | exact Or.inr rfl) (me_lc [("row", 3)] rfl sc_free_places.nd (mi_seq rfl (me_var 0)) (blkOk_by (N := ["space", "n", "leads", "row", "k"]) (sc := defScope s_free_places) (own := [("row", 3)]) (by decide +kernel)) (fun _ _ _ _ _ _ => (mg_name (i := 3) sc_free_places.nd rfl (by first | exact Or.inl rfl | exact Or.inr rfl))) (fun _ _ _ _ _ _ => mts_nil) (fun _ _ _ _ _ _ => (me_call (ok_lead_of T) (hr.mono (by decide)) (by rfl) T.g_lead_of takes0 (ma_cons (me_var 3) ma_nil)))))
      (ms_one (ms_ret (me_callTy call_tuple_of (n_tupOf rfl) (by rfl) T.z_tuple (by decide +kernel) (ma_cons (me_lc [("k", 4)] rfl sc_free_places.nd (mi_range1 (by rfl) T.z_range (ma_cons (me_var 1) ma_nil)) (blkOk_by (N := ["space", "n", "leads", "row", "k"]) (sc := defScope s_free_places) (own := [("k", 4)]) (by decide +kernel)) (fun _ _ _ _ _ _ => (mg_name (i := 4) sc_free_places.nd rfl (by first | exact Or.inl rfl | exact Or.inr rfl))) (fun _ _ _ _ _ _ => (mts_one (mt_cmp op_notIn_seq (p_notIn rfl) (me_var 4) (me_var 2) (by rfl)))) (fun _ _ _ _ _ _ => (me_var 4))) ma_nil))))))), F.kp, F.bindsN fun _ _ _ _ _ _ us hl => match us, hl with | [_, _], _ => rfl⟩
def m_is_direct : M Fl := sSeq (sAsg 2 (eN fLst (aNil)))
      (sSeq (sFor (iV itS (eV 0)) (gNm 3)
      (sSeq (sDrop (eCall 2 f_check_space (aCons (eV 3) (aCons (eV 1) (aNil)))))
      (sDrop (eOwn 2 isLst fExtend (aCons (eN fLstOf (aCons (eV 3) (aNil))) (aNil))))))
      (sRet (e2 (cmp cEq) (eCall 2 f_rank_of (aCons (eV 2) (aCons (eV 1) (aNil)))) (eAlt (isOwn 2) (eLenO 2) (eN fLen (aCons (eV 2) (aNil)))))))
def f_is_direct : List D → FO := mFn 4 m_is_direct
theorem ok_is_direct (T : Txt K mg) : Good (CC K) P w K mg base 8 25 2 (f_is_direct) := by
  obtain ⟨fd, F⟩ := T.f_is_direct
  exact ⟨fd, ["spaces", "n"], fn_ok F sc_is_direct (fun cdv A outer s H E B hr => (ms_cons (ms_set (i := 2) sc_is_direct.nd rfl (by first | exact Or.inl rfl | exact Or.inr rfl) (me_lst ma_nil))
      (ms_cons (ms_for (passes_of rfl) rfl (mi_seq rfl (me_var 0)) (mg_name (i := 3) sc_is_direct.nd rfl (by first | exact Or.inl rfl | exact Or.inr rfl)) (ms_cons (ms_expr (me_call (ok_check_space T) (hr.mono (by decide)) (by rfl) T.g_check_space (takes_of rfl rfl rfl rfl) (ma_cons (me_var 3) (ma_cons (me_var 1) ma_nil))))
      (ms_one (ms_expr (me_own 2 PySem.F.plainAttrs_list PySem.F.slot_list_extend PySem.F.type_list_extend mt_extend (fun _ _ _ _ o h => ty_list o h) own_extend (ma_cons (me_callTy call_list_of (n_lstOf rfl) (by rfl) T.z_list (by decide +kernel) (ma_cons (me_var 3) ma_nil)) ma_nil))))))
      (ms_one (ms_ret (me_cmp (op_eqD hr.units) (p_eq rfl) (me_call (ok_rank_of T) (hr.mono (by decide)) (by rfl) T.g_rank_of (takes_of rfl rfl rfl rfl) (ma_cons (me_var 2) (ma_cons (me_var 1) ma_nil))) (me_alt (me_lenO rfl 2 (by rfl) T.z_len) (me_callB cr_lenX (n_len rfl) (by rfl) T.z_len (by decide +kernel) (ma_cons (me_var 2) ma_nil))) (nomark _))))))), F.kp, F.bindsN fun _ _ _ _ _ _ us hl => match us, hl with | [_, _], _ => rfl⟩
def m_beside : M Fl := sSeq (sAsg 2 (eCall 1 f_unit_table (aCons (eV 1) (aNil))))
      (sRet (eN fTupOf (aCons (eLc (iV itS (eCall 2 f_free_places (aCons (eV 0) (aCons (eV 1) (aNil))))) (gNm 3) (tTrue) (e2 fIx (eV 2) (eV 3)) [3]) (aNil))))
def f_beside : List D → FO := mFn 4 m_beside
theorem ok_beside (T : Txt K mg) : Good (CC K) P w K mg base 9 24 2 (f_beside) := by
  obtain ⟨fd, F⟩ := T.f_beside
  exact ⟨fd, ["space", "n"], fn_ok F sc_beside (fun cdv A outer s H E B hr => (ms_cons (ms_set (i := 2) sc_beside.nd rfl (by first | exact Or.inl rfl | exact Or.inr rfl) (me_call (ok_unit_table T) (hr.mono (by decide)) (by rfl) T.g_unit_table (takes_of rfl rfl rfl rfl) (ma_cons (me_var 1) ma_nil)))
      (ms_one (ms_ret (me_callTy call_tuple_of (n_tupOf rfl) (by rfl) T.z_tuple (by decide +kernel) (ma_cons (me_lc [("k", 3)] rfl sc_beside.nd (mi_seq rfl (me_call (ok_free_places T) (hr.mono (by decide)) (by rfl) T.g_free_places (takes_of rfl rfl rfl rfl) (ma_cons (me_var 0) (ma_cons (me_var 1) ma_nil)))) (blkOk_by (N := ["space", "n", "units", "k"]) (sc := defScope s_beside) (own := [("k", 3)]) (by decide +kernel)) (fun _ _ _ _ _ _ => (mg_name (i := 3) sc_beside.nd rfl (by first | exact Or.inl rfl | exact Or.inr rfl))) (fun _ _ _ _ _ _ => mts_nil) (fun _ _ _ _ _ _ => (me_ix ix_seq (p_ix rfl) (me_var 2) (me_var 3) (fun _ _ => rfl)))) ma_nil)))))), F.kp, F.bindsN fun _ _ _ _ _ _ us hl => match us, hl with | [_, _], _ => rfl⟩
def m__law_told (T1 : Nat → Option (List D → FO)) (T2 : Nat → Option (List D → FO)) (T3 : Nat → Option (List D → FO)) (T4 : Nat → Option (List D → FO)) (T5 : Nat → Option (List D → FO)) : M Fl := sTry sub (sSeq (sIf (t2 cGt (eN fLen (aCons (eV 1) (aNil))) (eC (.int 3)))
      (sRet (eN fTup (aCons (eC (.str "told")) (aCons (eIf (t2 cEq (eN fLen (aCons (eV 1) (aNil))) (eC (.int 4))) (eCallL 4 0 T4 (aCons (e2 fIx (eV 1) (eC (.int 0))) (aCons (e2 fIx (eV 1) (eC (.int 1))) (aCons (e2 fIx (eV 1) (eC (.int 2))) (aCons (e2 fIx (eV 1) (eC (.int 3))) (aNil)))))) (eCallL 5 0 T5 (aCons (e2 fIx (eV 1) (eC (.int 0))) (aCons (e2 fIx (eV 1) (eC (.int 1))) (aCons (e2 fIx (eV 1) (eC (.int 2))) (aCons (e2 fIx (eV 1) (eC (.int 3))) (aCons (e2 fIx (eV 1) (eC (.int 4))) (aNil)))))))) (aNil))))) (sNx))
      (sRet (eN fTup (aCons (eC (.str "told")) (aCons (eIf (t2 cEq (eN fLen (aCons (eV 1) (aNil))) (eC (.int 1))) (eCallL 1 0 T1 (aCons (e2 fIx (eV 1) (eC (.int 0))) (aNil))) (eIf (t2 cEq (eN fLen (aCons (eV 1) (aNil))) (eC (.int 2))) (eCallL 2 0 T2 (aCons (e2 fIx (eV 1) (eC (.int 0))) (aCons (e2 fIx (eV 1) (eC (.int 1))) (aNil)))) (eCallL 3 0 T3 (aCons (e2 fIx (eV 1) (eC (.int 0))) (aCons (e2 fIx (eV 1) (eC (.int 1))) (aCons (e2 fIx (eV 1) (eC (.int 2))) (aNil))))))) (aNil)))))) [⟨1, none, fun _ => sRet (eN fTup (aCons (eC (.str "malformed")) (aCons (eC .non) (aNil))))⟩, ⟨2, (some 2), fun _ => (fun _ => .stuck)⟩]
def f__law_told (T1 : Nat → Option (List D → FO)) (T2 : Nat → Option (List D → FO)) (T3 : Nat → Option (List D → FO)) (T4 : Nat → Option (List D → FO)) (T5 : Nat → Option (List D → FO)) : List D → FO := mFn 3 (m__law_told T1 T2 T3 T4 T5)
theorem ok__law_told (T : Txt K mg) {T1 : Nat → Option (List D → FO)} (A1 : Tab (CC K) P w K mg base 12 1 T1) {T2 : Nat → Option (List D → FO)} (A2 : Tab (CC K) P w K mg base 12 2 T2) {T3 : Nat → Option (List D → FO)} (A3 : Tab (CC K) P w K mg base 12 3 T3) {T4 : Nat → Option (List D → FO)} (A4 : Tab (CC K) P w K mg base 12 4 T4) {T5 : Nat → Option (List D → FO)} (A5 : Tab (CC K) P w K mg base 12 5 T5) : Good (CC K) P w K mg base 13 31 2 (f__law_told T1 T2 T3 T4 T5) := by
  obtain ⟨fd, F⟩ := T.f__law_told
  exact ⟨fd, ["act", "given"], fn_ok F sc__law_told (fun cdv A outer s H E B hr => (ms_one (ms_try T.sub rfl rfl (takes_of rfl rfl rfl rfl) (fun _ _ _ tk_ hp_ => (ms_cons (ms_if (mt_cmp op_gt p_gt (me_callB cr_lenX (n_len rfl) (by rfl) T.z_len (by decide +kernel) (ma_cons (me_var 1) ma_nil)) me_int (nomark _)) (ms_one (ms_ret (me_tup (ma_cons me_str (ma_cons (me_if (mt_cmp (op_eqD hr.units) (p_eq rfl) (me_callB cr_lenX (n_len rfl) (by rfl) T.z_len (by decide +kernel) (ma_cons (me_var 1) ma_nil)) me_int (nomark _)) (me_callL 0 A4 (hr.mono (by decide)) tk_ (ma_cons (me_ix ix_seq (p_ix rfl) (me_var 1) me_int (fun _ _ => rfl)) (ma_cons (me_ix ix_seq (p_ix rfl) (me_var 1) me_int (fun _ _ => rfl)) (ma_cons (me_ix ix_seq (p_ix rfl) (me_var 1) me_int (fun _ _ => rfl)) (ma_cons (me_ix ix_seq (p_ix rfl) (me_var 1) me_int (fun _ _ => rfl)) ma_nil))))) (me_callL 0 A5 (hr.mono (by decide)) tk_ (ma_cons (me_ix ix_seq (p_ix rfl) (me_var 1) me_int (fun _ _ => rfl)) (ma_cons (me_ix ix_seq (p_ix rfl) (me_var 1) me_int (fun _ _ => rfl)) (ma_cons (me_ix ix_seq (p_ix rfl) (me_var 1) me_int (fun _ _ => rfl)) (ma_cons (me_ix ix_seq (p_ix rfl) (me_var 1) me_int (fun _ _ => rfl)) (ma_cons (me_ix ix_seq (p_ix rfl) (me_var 1) me_int (fun _ _ => rfl)) ma_nil))))))) ma_nil))))) ms_nil)
      (ms_one (ms_ret (me_tup (ma_cons me_str (ma_cons (me_if (mt_cmp (op_eqD hr.units) (p_eq rfl) (me_callB cr_lenX (n_len rfl) (by rfl) T.z_len (by decide +kernel) (ma_cons (me_var 1) ma_nil)) me_int (nomark _)) (me_callL 0 A1 (hr.mono (by decide)) tk_ (ma_cons (me_ix ix_seq (p_ix rfl) (me_var 1) me_int (fun _ _ => rfl)) ma_nil)) (me_if (mt_cmp (op_eqD hr.units) (p_eq rfl) (me_callB cr_lenX (n_len rfl) (by rfl) T.z_len (by decide +kernel) (ma_cons (me_var 1) ma_nil)) me_int (nomark _)) (me_callL 0 A2 (hr.mono (by decide)) tk_ (ma_cons (me_ix ix_seq (p_ix rfl) (me_var 1) me_int (fun _ _ => rfl)) (ma_cons (me_ix ix_seq (p_ix rfl) (me_var 1) me_int (fun _ _ => rfl)) ma_nil))) (me_callL 0 A3 (hr.mono (by decide)) tk_ (ma_cons (me_ix ix_seq (p_ix rfl) (me_var 1) me_int (fun _ _ => rfl)) (ma_cons (me_ix ix_seq (p_ix rfl) (me_var 1) me_int (fun _ _ => rfl)) (ma_cons (me_ix ix_seq (p_ix rfl) (me_var 1) me_int (fun _ _ => rfl)) ma_nil)))))) ma_nil))))))) (MHds.plain ⟨by rfl, by decide, .inl T.g_Malformed⟩ rfl (fun _ _ _ _ _ _ _ _ => (ms_one (ms_ret (me_tup (ma_cons me_str (ma_cons me_non ma_nil)))))) (MHds.as (i := 2) sc__law_told.nd rfl rfl ⟨by rfl, by decide, .inl T.g_Refused⟩ rfl (fun _ _ _ _ _ _ _ _ => ms_never) MHds.nil))))), F.kp, F.bindsN fun _ _ _ _ _ _ us hl => match us, hl with | [_, _], _ => rfl⟩
def m__law_same (self : List D → FO) : M Fl := sSeq (sIf (tV (eN fIsi (aCons (eV 1) (aCons (eC (.ty .bool)) (aNil)))))
      (sRet (eAnd (eN fIsi (aCons (eV 0) (aCons (eC (.ty .bool)) (aNil)))) (e2 (cmp cEq) (eV 0) (eV 1)))) (sNx))
      (sSeq (sIf (tV (eN fIsi (aCons (eV 1) (aCons (eC (.ty .tuple)) (aNil)))))
      (sRet (eAnd (eN fIsi (aCons (eV 0) (aCons (eC (.ty .tuple)) (aNil)))) (eAnd (e2 (cmp cEq) (eN fLen (aCons (eV 0) (aNil))) (eN fLen (aCons (eV 1) (aNil)))) (eN fAll (aCons (eLc (iN rg1 (aCons (eN fLen (aCons (eV 1) (aNil))) (aNil))) (gNm 2) (tTrue) (eCall 2 self (aCons (e2 fIx (eV 0) (eV 2)) (aCons (e2 fIx (eV 1) (eV 2)) (aNil)))) [2]) (aNil)))))) (sNx))
      (sSeq (sIf (tV (eN fIsi (aCons (eV 1) (aCons (eC (.ty .list)) (aNil)))))
      (sRet (eAnd (eN fIsi (aCons (eV 0) (aCons (eC (.ty .tuple)) (aNil)))) (eCall 2 self (aCons (eV 0) (aCons (eN fTupOf (aCons (eV 1) (aNil))) (aNil)))))) (sNx))
      (sSeq (sIf (tV (eN fIsi (aCons (eV 1) (aCons (eC (.ty .str)) (aNil)))))
      (sRet (eAnd (eN fIsi (aCons (eV 0) (aCons (eC (.ty .str)) (aNil)))) (e2 (cmp cEq) (eV 0) (eV 1)))) (sNx))
      (sSeq (sIf (t2 cIsN (eV 1) (eC .non))
      (sRet (e2 (cmp cIsN) (eV 0) (eC .non))) (sNx))
      (sRet (eAnd (eCall 1 f__law_is_whole (aCons (eV 0) (aNil))) (e2 (cmp cEq) (eV 0) (eV 1))))))))
def f__law_same : Nat → List D → FO
  | 0, _ => .stuck
  | n + 1, ds => mFn 3 (m__law_same (f__law_same n)) ds
theorem ok__law_same (T : Txt K mg) (n : Nat) (h : n ≤ 12 := by decide) : Good (CC K) P w K mg base (n + 2) 30 2 (f__law_same n) := by
  induction n with
  | zero =>
    obtain ⟨fd, F⟩ := T.f__law_same
    exact ⟨fd, ["one", "two"], (fn_ok (C := CC K) F sc__law_same (k := 0) (m := fun _ => .stuck) (fun cdv A outer s H E B hr => ms_never)).mono (by omega) |>.imp (fun vs H Q E h => by obtain ⟨F, ds, a, b, c, d⟩ := h; exact d.elim), F.kp, F.bindsN fun _ _ _ _ _ _ us hl => match us, hl with | [_, _], _ => rfl⟩
  | succ j ih =>
    have G_ := ih (by omega)
    obtain ⟨fd, F⟩ := T.f__law_same
    exact ⟨fd, ["one", "two"], (fn_ok F sc__law_same (k := j + 2) (m := m__law_same (f__law_same j)) (fun cdv A outer s H E B hr => (ms_cons (ms_if (mt_v rfl (me_callB call_isi (n_isi rfl) (by rfl) T.z_isinstance (by decide +kernel) (ma_cons (me_var 1) (ma_cons (me_ty .bool (by rfl) T.z_bool (by decide +kernel)) ma_nil)))) (ms_one (ms_ret (me_and (me_callB call_isi (n_isi rfl) (by rfl) T.z_isinstance (by decide +kernel) (ma_cons (me_var 0) (ma_cons (me_ty .bool (by rfl) T.z_bool (by decide +kernel)) ma_nil))) (me_one (me_cmp (op_eqD hr.units) (p_eq rfl) (me_var 0) (me_var 1) (nomark _)))))) ms_nil)
      (ms_cons (ms_if (mt_v rfl (me_callB call_isi (n_isi rfl) (by rfl) T.z_isinstance (by decide +kernel) (ma_cons (me_var 1) (ma_cons (me_ty .tuple (by rfl) T.z_tuple (by decide +kernel)) ma_nil)))) (ms_one (ms_ret (me_and (me_callB call_isi (n_isi rfl) (by rfl) T.z_isinstance (by decide +kernel) (ma_cons (me_var 0) (ma_cons (me_ty .tuple (by rfl) T.z_tuple (by decide +kernel)) ma_nil))) (me_and (me_cmp (op_eqD hr.units) (p_eq rfl) (me_callB cr_lenX (n_len rfl) (by rfl) T.z_len (by decide +kernel) (ma_cons (me_var 0) ma_nil)) (me_callB cr_lenX (n_len rfl) (by rfl) T.z_len (by decide +kernel) (ma_cons (me_var 1) ma_nil)) (nomark _)) (me_one (me_callB (cr_all rfl) (n_all rfl) (by rfl) T.z_all (by decide +kernel) (ma_cons (me_lc [("k", 2)] rfl sc__law_same.nd (mi_range1 (by rfl) T.z_range (ma_cons (me_callB cr_lenX (n_len rfl) (by rfl) T.z_len (by decide +kernel) (ma_cons (me_var 1) ma_nil)) ma_nil)) (blkOk_by (N := ["one", "two", "k"]) (sc := defScope s__law_same) (own := [("k", 2)]) (by decide +kernel)) (fun _ _ _ _ _ _ => (mg_name (i := 2) sc__law_same.nd rfl (by first | exact Or.inl rfl | exact Or.inr rfl))) (fun _ _ _ _ _ _ => mts_nil) (fun _ _ _ _ _ _ => (me_call G_ (hr.mono (by omega)) (by rfl) T.g__law_same takes0 (ma_cons (me_ix ix_seq (p_ix rfl) (me_var 0) (me_var 2) (fun _ _ => rfl)) (ma_cons (me_ix ix_seq (p_ix rfl) (me_var 1) (me_var 2) (fun _ _ => rfl)) ma_nil))))) ma_nil))))))) ms_nil)
      (ms_cons (ms_if (mt_v rfl (me_callB call_isi (n_isi rfl) (by rfl) T.z_isinstance (by decide +kernel) (ma_cons (me_var 1) (ma_cons (me_ty .list (by rfl) T.z_list (by decide +kernel)) ma_nil)))) (ms_one (ms_ret (me_and (me_callB call_isi (n_isi rfl) (by rfl) T.z_isinstance (by decide +kernel) (ma_cons (me_var 0) (ma_cons (me_ty .tuple (by rfl) T.z_tuple (by decide +kernel)) ma_nil))) (me_one (me_call G_ (hr.mono (by omega)) (by rfl) T.g__law_same (takes_of rfl rfl rfl rfl) (ma_cons (me_var 0) (ma_cons (me_callTy call_tuple_of (n_tupOf rfl) (by rfl) T.z_tuple (by decide +kernel) (ma_cons (me_var 1) ma_nil)) ma_nil))))))) ms_nil)
      (ms_cons (ms_if (mt_v rfl (me_callB call_isi (n_isi rfl) (by rfl) T.z_isinstance (by decide +kernel) (ma_cons (me_var 1) (ma_cons (me_ty .str (by rfl) T.z_str (by decide +kernel)) ma_nil)))) (ms_one (ms_ret (me_and (me_callB call_isi (n_isi rfl) (by rfl) T.z_isinstance (by decide +kernel) (ma_cons (me_var 0) (ma_cons (me_ty .str (by rfl) T.z_str (by decide +kernel)) ma_nil))) (me_one (me_cmp (op_eqD hr.units) (p_eq rfl) (me_var 0) (me_var 1) (nomark _)))))) ms_nil)
      (ms_cons (ms_if (mt_cmp op_isN p_isN (me_var 1) me_non (nomark _)) (ms_one (ms_ret (me_cmp op_isN p_isN (me_var 0) me_non (nomark _)))) ms_nil)
      (ms_one (ms_ret (me_and (me_call (ok__law_is_whole T) (hr.mono (by omega)) (by rfl) T.g__law_is_whole (takes_of rfl rfl rfl rfl) (ma_cons (me_var 0) ma_nil)) (me_one (me_cmp (op_eqD hr.units) (p_eq rfl) (me_var 0) (me_var 1) (nomark _))))))))))))).mono (by omega), F.kp, F.bindsN fun _ _ _ _ _ _ us hl => match us, hl with | [_, _], _ => rfl⟩
def m__law_all_malformed (T1 : Nat → Option (List D → FO)) (T2 : Nat → Option (List D → FO)) (T3 : Nat → Option (List D → FO)) (T4 : Nat → Option (List D → FO)) (T5 : Nat → Option (List D → FO)) : M Fl := sRet (eN fAll (aCons (eLc (iV itS (eV 0)) (gTp 2 (gsCons (gNm 1) (gsCons (gNm 2) (gsNil)))) (tTrue) (e2 (cmp cEq) (eCall 2 (f__law_told T1 T2 T3 T4 T5) (aCons (eV 1) (aCons (eV 2) (aNil)))) (eN fTup (aCons (eC (.str "malformed")) (aCons (eC .non) (aNil))))) [1, 2]) (aNil)))
def f__law_all_malformed (T1 : Nat → Option (List D → FO)) (T2 : Nat → Option (List D → FO)) (T3 : Nat → Option (List D → FO)) (T4 : Nat → Option (List D → FO)) (T5 : Nat → Option (List D → FO)) : List D → FO := mFn 3 (m__law_all_malformed T1 T2 T3 T4 T5)
theorem ok__law_all_malformed (T : Txt K mg) {T1 : Nat → Option (List D → FO)} (A1 : Tab (CC K) P w K mg base 12 1 T1) {T2 : Nat → Option (List D → FO)} (A2 : Tab (CC K) P w K mg base 12 2 T2) {T3 : Nat → Option (List D → FO)} (A3 : Tab (CC K) P w K mg base 12 3 T3) {T4 : Nat → Option (List D → FO)} (A4 : Tab (CC K) P w K mg base 12 4 T4) {T5 : Nat → Option (List D → FO)} (A5 : Tab (CC K) P w K mg base 12 5 T5) : Good (CC K) P w K mg base 14 32 1 (f__law_all_malformed T1 T2 T3 T4 T5) := by
  obtain ⟨fd, F⟩ := T.f__law_all_malformed
  exact ⟨fd, ["tried"], fn_ok F sc__law_all_malformed (fun cdv A outer s H E B hr => (ms_one (ms_ret (me_callB (cr_all rfl) (n_all rfl) (by rfl) T.z_all (by decide +kernel) (ma_cons (me_lc [("act", 1), ("given", 2)] rfl sc__law_all_malformed.nd (mi_seq rfl (me_var 0)) (blkOk_by (N := ["tried", "act", "given"]) (sc := defScope s__law_all_malformed) (own := [("act", 1), ("given", 2)]) (by decide +kernel)) (fun _ _ _ _ _ _ => (mg_tup rfl rfl (mgs_cons (mg_name (i := 1) sc__law_all_malformed.nd rfl (by first | exact Or.inl rfl | exact Or.inr rfl)) (mgs_cons (mg_name (i := 2) sc__law_all_malformed.nd rfl (by first | exact Or.inl rfl | exact Or.inr rfl)) mgs_nil)))) (fun _ _ _ _ _ _ => mts_nil) (fun _ _ _ _ _ _ => (me_cmp (op_eqD hr.units) (p_eq rfl) (me_call (ok__law_told T A1 A2 A3 A4 A5) (hr.mono (by decide)) (by rfl) T.g__law_told takes0 (ma_cons (me_var 1) (ma_cons (me_var 2) ma_nil))) (me_tup (ma_cons me_str (ma_cons me_non ma_nil))) (nomark _)))) ma_nil))))), F.kp, F.bindsN fun _ _ _ _ _ _ us hl => match us, hl with | [_], _ => rfl⟩
def tab1 (c : Nat) : Option (List D → FO) := match c with
  | _ => none
theorem tabok1 (T : Txt K mg) : Tab (CC K) P w K mg base 12 1 tab1 := ⟨fun c g h => by
  unfold tab1 at h
  split at h
  · cases h⟩
def tab2 (c : Nat) : Option (List D → FO) := match c with
  | 24 => some f_beside
  | 23 => some f_free_places
  | 25 => some f_is_direct
  | 22 => some f_rank_of
  | 15 => some f_space_of
  | _ => none
theorem tabok2 (T : Txt K mg) : Tab (CC K) P w K mg base 12 2 tab2 := ⟨fun c g h => by
  unfold tab2 at h
  split at h
  · cases h; exact (ok_beside T).mono (by decide)
  · cases h; exact (ok_free_places T).mono (by decide)
  · cases h; exact (ok_is_direct T).mono (by decide)
  · cases h; exact (ok_rank_of T).mono (by decide)
  · cases h; exact (ok_space_of T).mono (by decide)
  · cases h⟩
def tab3 (c : Nat) : Option (List D → FO) := match c with
  | 20 => some f_is_part
  | 18 => some f_is_within
  | _ => none
theorem tabok3 (T : Txt K mg) : Tab (CC K) P w K mg base 12 3 tab3 := ⟨fun c g h => by
  unfold tab3 at h
  split at h
  · cases h; exact (ok_is_part T).mono (by decide)
  · cases h; exact (ok_is_within T).mono (by decide)
  · cases h⟩
def tab4 (c : Nat) : Option (List D → FO) := match c with
  | _ => none
theorem tabok4 (T : Txt K mg) : Tab (CC K) P w K mg base 12 4 tab4 := ⟨fun c g h => by
  unfold tab4 at h
  split at h
  · cases h⟩
def tab5 (c : Nat) : Option (List D → FO) := match c with
  | _ => none
theorem tabok5 (T : Txt K mg) : Tab (CC K) P w K mg base 12 5 tab5 := ⟨fun c g h => by
  unfold tab5 at h
  split at h
  · cases h⟩
def ml_0 : M Fl := sAsg 1 (eCall 1 f__law_state (aCons (eV 0) (aNil)))
def ml_1 : M Fl := sAsg 2 (eCallB 2 1 f__law_take (aCons (eC (.int 6)) (aNil)))
def ml_2 : M Fl := sAsgG (gTp 2 (gsCons (gNm 3) (gsCons (gNm 4) (gsNil)))) (eN fTup (aCons (eCallB 2 1 f__law_drawn_rows (aCons (eV 2) (aNil))) (aCons (eCallB 2 1 f__law_drawn_rows (aCons (eV 2) (aNil))) (aNil))))
def ml_3 : M Fl := sAsg 5 (eCall 2 f_space_of (aCons (eV 3) (aCons (eV 2) (aNil))))
def ml_4 : M Fl := sIf (MM.tOr (MM.tNot (tV (eCall 2 f__law_is_space (aCons (eV 5) (aCons (eV 2) (aNil)))))) (MM.tOr (t2 cNe (eN fLen (aCons (eV 5) (aNil))) (eCall 2 f__law_rank (aCons (eV 3) (aCons (eV 2) (aNil))))) (MM.tOr (MM.tNot (tV (eN fAll (aCons (eLc (iV itS (eV 3)) (gNm 7) (tTrue) (eCall 3 f__law_within (aCons (eV 7) (aCons (eV 5) (aCons (eV 2) (aNil))))) [7]) (aNil))))) (MM.tNot (tV (eN fAll (aCons (eLc (iV itS (eV 5)) (gNm 7) (tTrue) (eCall 3 f__law_within (aCons (eV 7) (aCons (eV 3) (aCons (eV 2) (aNil))))) [7]) (aNil))))))))
      (sRet (eC (.bl false))) (sNx)
def ml_5 : M Fl := sIf (MM.tOr (MM.tNot (tV (eCall 2 (f__law_same 11) (aCons (eCall 2 f_space_of (aCons (eN fTupOf (aCons (eV 3) (aNil))) (aCons (eV 2) (aNil)))) (aCons (eV 5) (aNil)))))) (MM.tOr (MM.tNot (tV (eCall 2 (f__law_same 11) (aCons (eCall 2 f_rank_of (aCons (eV 3) (aCons (eV 2) (aNil)))) (aCons (eN fLen (aCons (eV 5) (aNil))) (aNil)))))) (MM.tNot (tV (eCall 2 (f__law_same 11) (aCons (eV 5) (aCons (eCall 2 f__law_least (aCons (eV 3) (aCons (eV 2) (aNil)))) (aNil))))))))
      (sRet (eC (.bl false))) (sNx)
def ml_6 : M Fl := sAsg 6 (eCall 2 f_space_of (aCons (eV 4) (aCons (eV 2) (aNil))))
def ml_7 : M Fl := sAsg 7 (eCallB 2 1 f__law_row (aCons (eV 2) (aNil)))
def ml_8 : M Fl := sFor (iV itS (e2 fAdd (eN fLst (aCons (eV 7) (aNil))) (eV 3))) (gNm 8)
      (sSeq (sAsg 9 (eCall 3 f__law_within (aCons (eV 8) (aCons (eV 3) (aCons (eV 2) (aNil))))))
      (sSeq (sIf (MM.tOr (MM.tNot (tV (eCall 2 f__law_says (aCons (eCall 3 f_is_within (aCons (eV 8) (aCons (eV 5) (aCons (eV 2) (aNil))))) (aCons (eV 9) (aNil)))))) (MM.tOr (MM.tNot (tV (eCall 2 (f__law_same 11) (aCons (eCall 1 f_slim (aCons (eV 8) (aNil))) (aCons (eCall 1 f__law_slim (aCons (eV 8) (aNil))) (aNil)))))) (MM.tNot (tV (eCall 2 (f__law_same 11) (aCons (eCall 1 f_lead_of (aCons (eV 8) (aNil))) (aCons (eCall 1 f__law_lead (aCons (eV 8) (aNil))) (aNil))))))))
      (sRet (eC (.bl false))) (sNx))
      (sSeq (sAsg 10 (eCall 2 f_rest_of (aCons (eV 8) (aCons (eV 5) (aNil)))))
      (sSeq (sIf (MM.tOr (MM.tNot (tV (eN fIsi (aCons (eV 10) (aCons (eC (.ty .tuple)) (aNil)))))) (MM.tOr (t2 cNe (eN fLen (aCons (eV 10) (aNil))) (eV 2)) (MM.tOr (MM.tNot (tV (eN fAll (aCons (eLc (iV itS (eV 5)) (gNm 18) (tTrue) (e2 (cmp cEq) (e2 fIx (eV 10) (eCall 1 f__law_lead (aCons (eV 18) (aNil)))) (eC (.int 0))) [18]) (aNil))))) (t2 cNe (e2 (cmp cEq) (eV 10) (e2 fMul (eN fTup (aCons (eC (.int 0)) (aNil))) (eV 2))) (eV 9)))))
      (sRet (eC (.bl false))) (sNx))
      (sIf (MM.tOr (MM.tNot (tV (eCall 3 f__law_within (aCons (eV 10) (aCons (e2 fAdd (eV 3) (eN fLst (aCons (eV 8) (aNil)))) (aCons (eV 2) (aNil))))))) (MM.tNot (tV (eCall 3 f__law_within (aCons (eV 8) (aCons (e2 fAdd (eV 3) (eN fLst (aCons (eV 10) (aNil)))) (aCons (eV 2) (aNil))))))))
      (sRet (eC (.bl false))) (sNx))))))
def ml_9 : M Fl := sIf (MM.tOr (MM.tNot (tV (eCall 2 f__law_says (aCons (eCall 3 f_is_part (aCons (eV 5) (aCons (eV 6) (aCons (eV 2) (aNil))))) (aCons (eN fAll (aCons (eLc (iV itS (eV 5)) (gNm 8) (tTrue) (eCall 3 f__law_within (aCons (eV 8) (aCons (eV 4) (aCons (eV 2) (aNil))))) [8]) (aNil))) (aNil)))))) (MM.tNot (tV (eCall 2 f__law_says (aCons (eCall 3 f_is_part (aCons (eV 5) (aCons (eCall 1 f_whole_space (aCons (eV 2) (aNil))) (aCons (eV 2) (aNil))))) (aCons (eC (.bl true)) (aNil)))))))
      (sRet (eC (.bl false))) (sNx)
def ml_10 : M Fl := sAsg 11 (eLc (iV itS (eV 5)) (gNm 18) (tTrue) (eCall 1 f__law_lead (aCons (eV 18) (aNil))) [18])
def ml_11 : M Fl := sAsg 12 (eLc (iN rg1 (aCons (eV 2) (aNil))) (gNm 19) (t2 cNotIn (eV 19) (eV 11)) (eV 19) [19])
def ml_12 : M Fl := sIf (MM.tOr (MM.tNot (tV (eCall 2 (f__law_same 11) (aCons (eCall 2 f_free_places (aCons (eV 5) (aCons (eV 2) (aNil)))) (aCons (eV 12) (aNil)))))) (MM.tOr (MM.tNot (tV (eCall 2 (f__law_same 11) (aCons (eCall 2 f_beside (aCons (eV 5) (aCons (eV 2) (aNil)))) (aCons (eLc (iV itS (eV 12)) (gNm 19) (tTrue) (e2 fIx (eCall 1 f__law_unit (aCons (eV 2) (aNil))) (eV 19)) [19]) (aNil)))))) (MM.tNot (tV (eCall 2 (f__law_same 11) (aCons (eCall 1 f_whole_space (aCons (eV 2) (aNil))) (aCons (eCall 1 f__law_unit (aCons (eV 2) (aNil))) (aNil))))))))
      (sRet (eC (.bl false))) (sNx)
def ml_13 : M Fl := sIf (MM.tOr (MM.tNot (tV (eCall 2 f__law_says (aCons (eCall 2 f_is_direct (aCons (eN fTup (aCons (eV 5) (aCons (eV 6) (aNil)))) (aCons (eV 2) (aNil)))) (aCons (e2 (cmp cEq) (eCall 2 f__law_rank (aCons (e2 fAdd (eN fLstOf (aCons (eV 5) (aNil))) (eN fLstOf (aCons (eV 6) (aNil)))) (aCons (eV 2) (aNil)))) (e2 fAdd (eN fLen (aCons (eV 5) (aNil))) (eN fLen (aCons (eV 6) (aNil))))) (aNil)))))) (MM.tNot (tV (eCall 2 f__law_says (aCons (eCall 2 f_is_direct (aCons (eN fTup (aCons (eV 5) (aCons (eCall 2 f_beside (aCons (eV 5) (aCons (eV 2) (aNil)))) (aNil)))) (aCons (eV 2) (aNil)))) (aCons (eC (.bl true)) (aNil)))))))
      (sRet (eC (.bl false))) (sNx)
def ml_14 : M Fl := sAsg 13 (e2 fAdd (eV 5) (eN fTup (aCons (e2 fMul (eN fTup (aCons (eC (.int 0)) (aNil))) (eV 2)) (aNil))))
def ml_15 : M Fl := sFor (iV itS (eN fLst (aCons (eV 5) (aCons (eV 6) (aCons (eN fTupOf (aCons (eV 3) (aNil))) (aCons (eV 13) (aCons (eRevX (eV 5)) (aCons (eLc (iV itS (eV 5)) (gNm 18) (tTrue) (eV 18) [18]) (aCons (eC .non) (aCons (eC (.int 5)) (aCons (eN fTup (aCons (e2 fMul (eN fTup (aCons (eC (.int 1)) (aNil))) (eV 2)) (aCons (e2 fMul (eN fTup (aCons (eC (.int 2)) (aNil))) (eV 2)) (aNil)))) (aCons (eN fTup (aCons (e2 fMul (eN fTup (aCons (eC (.bl true)) (aNil))) (eV 2)) (aNil))) (aCons (eC (.str "a")) (aCons (eN fTup (aCons (eC .non) (aNil))) (aCons (eN fTup (aCons (e2 fAdd (eN fTup (aCons (eC (.int 2)) (aNil))) (e2 fMul (eN fTup (aCons (eC (.int 0)) (aNil))) (e2 fSub (eV 2) (eC (.int 1))))) (aNil))) (aCons (eN fTup (aCons (e2 fAdd (eN fTup (aCons (e1 fNeg (eC (.int 1))) (aNil))) (e2 fMul (eN fTup (aCons (eC (.int 0)) (aNil))) (e2 fSub (eV 2) (eC (.int 1))))) (aNil))) (aNil))))))))))))))))) (gNm 14)
      (sSeq (sAsg 15 (eAnd (eN fIsi (aCons (eV 14) (aCons (eC (.ty .tuple)) (aNil)))) (eCall 2 f__law_is_space (aCons (eV 14) (aCons (eV 2) (aNil))))))
      (sSeq (sIf (MM.tNot (tV (eCall 2 f__law_says (aCons (eCall 2 f_is_space (aCons (eV 14) (aCons (eV 2) (aNil)))) (aCons (eV 15) (aNil))))))
      (sRet (eC (.bl false))) (sNx))
      (sSeq (sAsg 16 (eN fLst (aCons (eN fTup (aCons (eC (.gl 18)) (aCons (eN fTup (aCons (eV 7) (aCons (eV 14) (aCons (eV 2) (aNil))))) (aNil)))) (aCons (eN fTup (aCons (eC (.gl 20)) (aCons (eN fTup (aCons (eV 14) (aCons (eV 5) (aCons (eV 2) (aNil))))) (aNil)))) (aCons (eN fTup (aCons (eC (.gl 20)) (aCons (eN fTup (aCons (eV 5) (aCons (eV 14) (aCons (eV 2) (aNil))))) (aNil)))) (aCons (eN fTup (aCons (eC (.gl 23)) (aCons (eN fTup (aCons (eV 14) (aCons (eV 2) (aNil)))) (aNil)))) (aCons (eN fTup (aCons (eC (.gl 24)) (aCons (eN fTup (aCons (eV 14) (aCons (eV 2) (aNil)))) (aNil)))) (aCons (eN fTup (aCons (eC (.gl 25)) (aCons (eN fTup (aCons (eN fTup (aCons (eV 5) (aCons (eV 14) (aNil)))) (aCons (eV 2) (aNil)))) (aNil)))) (aNil)))))))))
      (sSeq (sIf (MM.tAnd (MM.tNot (tV (eV 15))) (MM.tNot (tV (eCall 1 (f__law_all_malformed tab1 tab2 tab3 tab4 tab5) (aCons (eV 16) (aNil))))))
      (sRet (eC (.bl false))) (sNx))
      (sSeq (sAsg 17 (eAnd (eN fIsiA (aCons (eV 14) (aCons (eN fTup (aCons (eC (.ty .list)) (aCons (eC (.ty .tuple)) (aNil)))) (aNil)))) (eN fAll (aCons (eLc (iV itS (eV 14)) (gNm 8) (tTrue) (eAnd (eN fIsi (aCons (eV 8) (aCons (eC (.ty .tuple)) (aNil)))) (eAnd (e2 (cmp cEq) (eN fLen (aCons (eV 8) (aNil))) (eV 2)) (eN fAll (aCons (eLc (iV itS (eV 8)) (gNm 20) (tTrue) (eCall 1 f__law_is_whole (aCons (eV 20) (aNil))) [20]) (aNil))))) [8]) (aNil)))))
      (sIf (MM.tOr (MM.tNot (tV (eCall 2 f__law_says (aCons (eCall 2 f_is_rows (aCons (eV 14) (aCons (eV 2) (aNil)))) (aCons (eV 17) (aNil)))))) (MM.tAnd (MM.tNot (tV (eV 17))) (MM.tNot (tV (eCall 1 (f__law_all_malformed tab1 tab2 tab3 tab4 tab5) (aCons (eN fLst (aCons (eN fTup (aCons (eC (.gl 15)) (aCons (eN fTup (aCons (eV 14) (aCons (eV 2) (aNil)))) (aNil)))) (aCons (eN fTup (aCons (eC (.gl 22)) (aCons (eN fTup (aCons (eV 14) (aCons (eV 2) (aNil)))) (aNil)))) (aNil)))) (aNil)))))))
      (sRet (eC (.bl false))) (sNx)))))))
def ml_16 : M Fl := sRet (eCall 1 (f__law_all_malformed tab1 tab2 tab3 tab4 tab5) (aCons (eN fLst (aCons (eN fTup (aCons (eC (.gl 15)) (aCons (eN fTup (aCons (eN fTup (aNil)) (aCons (e1 fNeg (eC (.int 1))) (aNil)))) (aNil)))) (aCons (eN fTup (aCons (eC (.gl 15)) (aCons (eN fTup (aCons (eN fTup (aNil)) (aCons (eC (.int 257)) (aNil)))) (aNil)))) (aCons (eN fTup (aCons (eC (.gl 15)) (aCons (eN fTup (aCons (eN fTup (aNil)) (aCons (eC (.bl true)) (aNil)))) (aNil)))) (aCons (eN fTup (aCons (eC (.gl 18)) (aCons (eN fTup (aCons (e2 fMul (eN fTup (aCons (eC (.int 1)) (aNil))) (e2 fAdd (eV 2) (eC (.int 1)))) (aCons (eV 5) (aCons (eV 2) (aNil))))) (aNil)))) (aCons (eN fTup (aCons (eC (.gl 18)) (aCons (eN fTup (aCons (eC .non) (aCons (eV 5) (aCons (eV 2) (aNil))))) (aNil)))) (aCons (eN fTup (aCons (eC (.gl 22)) (aCons (eN fTup (aCons (eN fTup (aNil)) (aCons (eC .non) (aNil)))) (aNil)))) (aNil)))))))) (aNil)))
def m_law : M Fl := sSeq ml_0 (sSeq ml_1 (sSeq ml_2 (sSeq ml_3 (sSeq ml_4 (sSeq ml_5 (sSeq ml_6 (sSeq ml_7 (sSeq ml_8 (sSeq ml_9 (sSeq ml_10 (sSeq ml_11 (sSeq ml_12 (sSeq ml_13 (sSeq ml_14 (sSeq ml_15 (ml_16))))))))))))))))
def f_law : List D → FO := mFn 21 m_law
theorem law_fn (T : Txt K mg) {fd : FuncData} (F : FunD K "law" "law" (defArgs s_law) (defBody s_law) (defScope s_law) [] [] (faOf K 44) fd) : FnOk P w K mg base (L2.CX P w) 15 (faOf K 44) fd ["script"] (fspec (CC K) 1 f_law) :=
  fn_ok F sc_law (fun cdv A outer s H E B hr => (ms_cons (ms_set (i := 1) sc_law.nd rfl (by first | exact Or.inl rfl | exact Or.inr rfl) (me_call (ok__law_state T) (hr.mono (by decide)) (by rfl) T.g__law_state (takes_of rfl rfl rfl rfl) (ma_cons (me_var 0) ma_nil)))
      (ms_cons (ms_set (i := 2) sc_law.nd rfl (by first | exact Or.inl rfl | exact Or.inr rfl) (me_callO 1 (ok__law_take T) (hr.mono (by decide)) (by rfl) T.g__law_take (takes_of rfl rfl rfl rfl) (ma_cons me_int ma_nil)))
      (ms_cons (ms_asg (me_tup (ma_cons (me_callO 1 (ok__law_drawn_rows T) (hr.mono (by decide)) (by rfl) T.g__law_drawn_rows (takes_of rfl rfl rfl rfl) (ma_cons (me_var 2) ma_nil)) (ma_cons (me_callO 1 (ok__law_drawn_rows T) (hr.mono (by decide)) (by rfl) T.g__law_drawn_rows (takes_of rfl rfl rfl rfl) (ma_cons (me_var 2) ma_nil)) ma_nil))) (mg_tup rfl rfl (mgs_cons (mg_name (i := 3) sc_law.nd rfl (by first | exact Or.inl rfl | exact Or.inr rfl)) (mgs_cons (mg_name (i := 4) sc_law.nd rfl (by first | exact Or.inl rfl | exact Or.inr rfl)) mgs_nil))))
      (ms_cons (ms_set (i := 5) sc_law.nd rfl (by first | exact Or.inl rfl | exact Or.inr rfl) (me_call (ok_space_of T) (hr.mono (by decide)) (by rfl) T.g_space_of (takes_of rfl rfl rfl rfl) (ma_cons (me_var 3) (ma_cons (me_var 2) ma_nil))))
      (ms_cons (ms_if (PW.pt (mw_or (mt_not (mt_v rfl (me_call (ok__law_is_space T) (hr.mono (by decide)) (by rfl) T.g__law_is_space (takes_of rfl rfl rfl rfl) (ma_cons (me_var 5) (ma_cons (me_var 2) ma_nil))))) (mw_or (mt_cmp (op_neD hr.units) (p_ne rfl) (me_callB cr_lenX (n_len rfl) (by rfl) T.z_len (by decide +kernel) (ma_cons (me_var 5) ma_nil)) (me_call (ok__law_rank T) (hr.mono (by decide)) (by rfl) T.g__law_rank (takes_of rfl rfl rfl rfl) (ma_cons (me_var 3) (ma_cons (me_var 2) ma_nil))) (nomark _)) (mw_or (mt_not (mt_v rfl (me_callB (cr_all rfl) (n_all rfl) (by rfl) T.z_all (by decide +kernel) (ma_cons (me_lc [("row", 7)] rfl sc_law.nd (mi_seq rfl (me_var 3)) (blkOk_by (N := ["script", "state", "n", "rows", "others", "told", "other", "row", "own", "inside", "rest", "leads", "free", "wide", "value", "plain", "tried", "loose", "low", "k", "c"]) (sc := defScope s_law) (own := [("row", 7)]) (by decide +kernel)) (fun _ _ _ _ _ _ => (mg_name (i := 7) sc_law.nd rfl (by first | exact Or.inl rfl | exact Or.inr rfl))) (fun _ _ _ _ _ _ => mts_nil) (fun _ _ _ _ _ _ => (me_call (ok__law_within T) (hr.mono (by decide)) (by rfl) T.g__law_within takes0 (ma_cons (me_var 7) (ma_cons (me_var 5) (ma_cons (me_var 2) ma_nil)))))) ma_nil)))) (mw_o1 (mt_not (mt_v rfl (me_callB (cr_all rfl) (n_all rfl) (by rfl) T.z_all (by decide +kernel) (ma_cons (me_lc [("row", 7)] rfl sc_law.nd (mi_seq rfl (me_var 5)) (blkOk_by (N := ["script", "state", "n", "rows", "others", "told", "other", "row", "own", "inside", "rest", "leads", "free", "wide", "value", "plain", "tried", "loose", "low", "k", "c"]) (sc := defScope s_law) (own := [("row", 7)]) (by decide +kernel)) (fun _ _ _ _ _ _ => (mg_name (i := 7) sc_law.nd rfl (by first | exact Or.inl rfl | exact Or.inr rfl))) (fun _ _ _ _ _ _ => mts_nil) (fun _ _ _ _ _ _ => (me_call (ok__law_within T) (hr.mono (by decide)) (by rfl) T.g__law_within takes0 (ma_cons (me_var 7) (ma_cons (me_var 3) (ma_cons (me_var 2) ma_nil)))))) ma_nil))))))))) (ms_one (ms_ret me_bl)) ms_nil)
      (ms_cons (ms_if (PW.pt (mw_or (mt_not (mt_v rfl (me_call (ok__law_same T 11) (hr.mono (by decide)) (by rfl) T.g__law_same (takes_of rfl rfl rfl rfl) (ma_cons (me_call (ok_space_of T) (hr.mono (by decide)) (by rfl) T.g_space_of (takes_of rfl rfl rfl rfl) (ma_cons (me_callTy call_tuple_of (n_tupOf rfl) (by rfl) T.z_tuple (by decide +kernel) (ma_cons (me_var 3) ma_nil)) (ma_cons (me_var 2) ma_nil))) (ma_cons (me_var 5) ma_nil))))) (mw_or (mt_not (mt_v rfl (me_call (ok__law_same T 11) (hr.mono (by decide)) (by rfl) T.g__law_same (takes_of rfl rfl rfl rfl) (ma_cons (me_call (ok_rank_of T) (hr.mono (by decide)) (by rfl) T.g_rank_of (takes_of rfl rfl rfl rfl) (ma_cons (me_var 3) (ma_cons (me_var 2) ma_nil))) (ma_cons (me_callB cr_lenX (n_len rfl) (by rfl) T.z_len (by decide +kernel) (ma_cons (me_var 5) ma_nil)) ma_nil))))) (mw_o1 (mt_not (mt_v rfl (me_call (ok__law_same T 11) (hr.mono (by decide)) (by rfl) T.g__law_same (takes_of rfl rfl rfl rfl) (ma_cons (me_var 5) (ma_cons (me_call (ok__law_least T) (hr.mono (by decide)) (by rfl) T.g__law_least (takes_of rfl rfl rfl rfl) (ma_cons (me_var 3) (ma_cons (me_var 2) ma_nil))) ma_nil))))))))) (ms_one (ms_ret me_bl)) ms_nil)
      (ms_cons (ms_set (i := 6) sc_law.nd rfl (by first | exact Or.inl rfl | exact Or.inr rfl) (me_call (ok_space_of T) (hr.mono (by decide)) (by rfl) T.g_space_of (takes_of rfl rfl rfl rfl) (ma_cons (me_var 4) (ma_cons (me_var 2) ma_nil))))
      (ms_cons (ms_set (i := 7) sc_law.nd rfl (by first | exact Or.inl rfl | exact Or.inr rfl) (me_callO 1 (ok__law_row T) (hr.mono (by decide)) (by rfl) T.g__law_row (takes_of rfl rfl rfl rfl) (ma_cons (me_var 2) ma_nil)))
      (ms_cons (ms_for (passes_of rfl) rfl (mi_seq rfl (me_op op_addX (p_add rfl) (me_lst (ma_cons (me_var 7) ma_nil)) (me_var 3))) (mg_name (i := 8) sc_law.nd rfl (by first | exact Or.inl rfl | exact Or.inr rfl)) (ms_cons (ms_set (i := 9) sc_law.nd rfl (by first | exact Or.inl rfl | exact Or.inr rfl) (me_call (ok__law_within T) (hr.mono (by decide)) (by rfl) T.g__law_within (takes_of rfl rfl rfl rfl) (ma_cons (me_var 8) (ma_cons (me_var 3) (ma_cons (me_var 2) ma_nil)))))
      (ms_cons (ms_if (PW.pt (mw_or (mt_not (mt_v rfl (me_call (ok__law_says T) (hr.mono (by decide)) (by rfl) T.g__law_says (takes_of rfl rfl rfl rfl) (ma_cons (me_call (ok_is_within T) (hr.mono (by decide)) (by rfl) T.g_is_within (takes_of rfl rfl rfl rfl) (ma_cons (me_var 8) (ma_cons (me_var 5) (ma_cons (me_var 2) ma_nil)))) (ma_cons (me_var 9) ma_nil))))) (mw_or (mt_not (mt_v rfl (me_call (ok__law_same T 11) (hr.mono (by decide)) (by rfl) T.g__law_same (takes_of rfl rfl rfl rfl) (ma_cons (me_call (ok_slim T) (hr.mono (by decide)) (by rfl) T.g_slim (takes_of rfl rfl rfl rfl) (ma_cons (me_var 8) ma_nil)) (ma_cons (me_call (ok__law_slim T) (hr.mono (by decide)) (by rfl) T.g__law_slim (takes_of rfl rfl rfl rfl) (ma_cons (me_var 8) ma_nil)) ma_nil))))) (mw_o1 (mt_not (mt_v rfl (me_call (ok__law_same T 11) (hr.mono (by decide)) (by rfl) T.g__law_same (takes_of rfl rfl rfl rfl) (ma_cons (me_call (ok_lead_of T) (hr.mono (by decide)) (by rfl) T.g_lead_of (takes_of rfl rfl rfl rfl) (ma_cons (me_var 8) ma_nil)) (ma_cons (me_call (ok__law_lead T) (hr.mono (by decide)) (by rfl) T.g__law_lead (takes_of rfl rfl rfl rfl) (ma_cons (me_var 8) ma_nil)) ma_nil))))))))) (ms_one (ms_ret me_bl)) ms_nil)
      (ms_cons (ms_set (i := 10) sc_law.nd rfl (by first | exact Or.inl rfl | exact Or.inr rfl) (me_call (ok_rest_of T) (hr.mono (by decide)) (by rfl) T.g_rest_of (takes_of rfl rfl rfl rfl) (ma_cons (me_var 8) (ma_cons (me_var 5) ma_nil))))
      (ms_cons (ms_if (PW.pt (mw_or (mt_not (mt_v rfl (me_callB call_isi (n_isi rfl) (by rfl) T.z_isinstance (by decide +kernel) (ma_cons (me_var 10) (ma_cons (me_ty .tuple (by rfl) T.z_tuple (by decide +kernel)) ma_nil))))) (mw_or (mt_cmp (op_neD hr.units) (p_ne rfl) (me_callB cr_lenX (n_len rfl) (by rfl) T.z_len (by decide +kernel) (ma_cons (me_var 10) ma_nil)) (me_var 2) (nomark _)) (mw_or (mt_not (mt_v rfl (me_callB (cr_all rfl) (n_all rfl) (by rfl) T.z_all (by decide +kernel) (ma_cons (me_lc [("low", 18)] rfl sc_law.nd (mi_seq rfl (me_var 5)) (blkOk_by (N := ["script", "state", "n", "rows", "others", "told", "other", "row", "own", "inside", "rest", "leads", "free", "wide", "value", "plain", "tried", "loose", "low", "k", "c"]) (sc := defScope s_law) (own := [("low", 18)]) (by decide +kernel)) (fun _ _ _ _ _ _ => (mg_name (i := 18) sc_law.nd rfl (by first | exact Or.inl rfl | exact Or.inr rfl))) (fun _ _ _ _ _ _ => mts_nil) (fun _ _ _ _ _ _ => (me_cmp (op_eqD hr.units) (p_eq rfl) (me_ix ix_seq (p_ix rfl) (me_var 10) (me_call (ok__law_lead T) (hr.mono (by decide)) (by rfl) T.g__law_lead takes0 (ma_cons (me_var 18) ma_nil)) (fun _ _ => rfl)) me_int (nomark _)))) ma_nil)))) (mw_o1 (mt_cmp (op_neD hr.units) (p_ne rfl) (me_cmp (op_eqD hr.units) (p_eq rfl) (me_var 10) (me_op op_mulA (p_mulA rfl) (me_tup (ma_cons me_int ma_nil)) (me_var 2)) (nomark _)) (me_var 9) (nomark _))))))) (ms_one (ms_ret me_bl)) ms_nil)
      (ms_one (ms_if (PW.pt (mw_or (mt_not (mt_v rfl (me_call (ok__law_within T) (hr.mono (by decide)) (by rfl) T.g__law_within (takes_of rfl rfl rfl rfl) (ma_cons (me_var 10) (ma_cons (me_op op_addX (p_add rfl) (me_var 3) (me_lst (ma_cons (me_var 8) ma_nil))) (ma_cons (me_var 2) ma_nil)))))) (mw_o1 (mt_not (mt_v rfl (me_call (ok__law_within T) (hr.mono (by decide)) (by rfl) T.g__law_within (takes_of rfl rfl rfl rfl) (ma_cons (me_var 8) (ma_cons (me_op op_addX (p_add rfl) (me_var 3) (me_lst (ma_cons (me_var 10) ma_nil))) (ma_cons (me_var 2) ma_nil))))))))) (ms_one (ms_ret me_bl)) ms_nil)))))))
      (ms_cons (ms_if (PW.pt (mw_or (mt_not (mt_v rfl (me_call (ok__law_says T) (hr.mono (by decide)) (by rfl) T.g__law_says (takes_of rfl rfl rfl rfl) (ma_cons (me_call (ok_is_part T) (hr.mono (by decide)) (by rfl) T.g_is_part (takes_of rfl rfl rfl rfl) (ma_cons (me_var 5) (ma_cons (me_var 6) (ma_cons (me_var 2) ma_nil)))) (ma_cons (me_callB (cr_all rfl) (n_all rfl) (by rfl) T.z_all (by decide +kernel) (ma_cons (me_lc [("own", 8)] rfl sc_law.nd (mi_seq rfl (me_var 5)) (blkOk_by (N := ["script", "state", "n", "rows", "others", "told", "other", "row", "own", "inside", "rest", "leads", "free", "wide", "value", "plain", "tried", "loose", "low", "k", "c"]) (sc := defScope s_law) (own := [("own", 8)]) (by decide +kernel)) (fun _ _ _ _ _ _ => (mg_name (i := 8) sc_law.nd rfl (by first | exact Or.inl rfl | exact Or.inr rfl))) (fun _ _ _ _ _ _ => mts_nil) (fun _ _ _ _ _ _ => (me_call (ok__law_within T) (hr.mono (by decide)) (by rfl) T.g__law_within takes0 (ma_cons (me_var 8) (ma_cons (me_var 4) (ma_cons (me_var 2) ma_nil)))))) ma_nil)) ma_nil))))) (mw_o1 (mt_not (mt_v rfl (me_call (ok__law_says T) (hr.mono (by decide)) (by rfl) T.g__law_says (takes_of rfl rfl rfl rfl) (ma_cons (me_call (ok_is_part T) (hr.mono (by decide)) (by rfl) T.g_is_part (takes_of rfl rfl rfl rfl) (ma_cons (me_var 5) (ma_cons (me_call (ok_whole_space T) (hr.mono (by decide)) (by rfl) T.g_whole_space (takes_of rfl rfl rfl rfl) (ma_cons (me_var 2) ma_nil)) (ma_cons (me_var 2) ma_nil)))) (ma_cons me_bl ma_nil)))))))) (ms_one (ms_ret me_bl)) ms_nil)
      (ms_cons (ms_set (i := 11) sc_law.nd rfl (by first | exact Or.inl rfl | exact Or.inr rfl) (me_lc [("low", 18)] rfl sc_law.nd (mi_seq rfl (me_var 5)) (blkOk_by (N := ["script", "state", "n", "rows", "others", "told", "other", "row", "own", "inside", "rest", "leads", "free", "wide", "value", "plain", "tried", "loose", "low", "k", "c"]) (sc := defScope s_law) (own := [("low", 18)]) (by decide +kernel)) (fun _ _ _ _ _ _ => (mg_name (i := 18) sc_law.nd rfl (by first | exact Or.inl rfl | exact Or.inr rfl))) (fun _ _ _ _ _ _ => mts_nil) (fun _ _ _ _ _ _ => (me_call (ok__law_lead T) (hr.mono (by decide)) (by rfl) T.g__law_lead takes0 (ma_cons (me_var 18) ma_nil)))))
      (ms_cons (ms_setLc (i := 12) [("k", 19)] rfl sc_law.nd rfl rfl (sw_true rfl rfl rfl (by decide +kernel)) (mi_range1 (by rfl) T.z_range (ma_cons (me_var 2) ma_nil)) (blkOk_by (N := ["script", "state", "n", "rows", "others", "told", "other", "row", "own", "inside", "rest", "leads", "free", "wide", "value", "plain", "tried", "loose", "low", "k", "c"]) (sc := defScope s_law) (own := [("k", 19)]) (by decide +kernel)) (fun _ _ _ _ _ _ => (mg_name (i := 19) sc_law.nd rfl (by first | exact Or.inl rfl | exact Or.inr rfl))) (fun _ _ _ _ _ _ => (mts_one (mt_cmp op_notIn_seq (p_notIn rfl) (me_var 19) (me_var 11) (by rfl)))) (fun _ _ _ _ _ _ => (me_var 19)))
      (ms_cons (ms_if (PW.pt (mw_or (mt_not (mt_v rfl (me_call (ok__law_same T 11) (hr.mono (by decide)) (by rfl) T.g__law_same (takes_of rfl rfl rfl rfl) (ma_cons (me_call (ok_free_places T) (hr.mono (by decide)) (by rfl) T.g_free_places (takes_of rfl rfl rfl rfl) (ma_cons (me_var 5) (ma_cons (me_var 2) ma_nil))) (ma_cons (me_var 12) ma_nil))))) (mw_or (mt_not (mt_v rfl (me_call (ok__law_same T 11) (hr.mono (by decide)) (by rfl) T.g__law_same (takes_of rfl rfl rfl rfl) (ma_cons (me_call (ok_beside T) (hr.mono (by decide)) (by rfl) T.g_beside (takes_of rfl rfl rfl rfl) (ma_cons (me_var 5) (ma_cons (me_var 2) ma_nil))) (ma_cons (me_lc [("k", 19)] rfl sc_law.nd (mi_seq rfl (me_var 12)) (blkOk_by (N := ["script", "state", "n", "rows", "others", "told", "other", "row", "own", "inside", "rest", "leads", "free", "wide", "value", "plain", "tried", "loose", "low", "k", "c"]) (sc := defScope s_law) (own := [("k", 19)]) (by decide +kernel)) (fun _ _ _ _ _ _ => (mg_name (i := 19) sc_law.nd rfl (by first | exact Or.inl rfl | exact Or.inr rfl))) (fun _ _ _ _ _ _ => mts_nil) (fun _ _ _ _ _ _ => (me_ix ix_seq (p_ix rfl) (me_call (ok__law_unit T) (hr.mono (by decide)) (by rfl) T.g__law_unit takes0 (ma_cons (me_var 2) ma_nil)) (me_var 19) (fun _ _ => rfl)))) ma_nil))))) (mw_o1 (mt_not (mt_v rfl (me_call (ok__law_same T 11) (hr.mono (by decide)) (by rfl) T.g__law_same (takes_of rfl rfl rfl rfl) (ma_cons (me_call (ok_whole_space T) (hr.mono (by decide)) (by rfl) T.g_whole_space (takes_of rfl rfl rfl rfl) (ma_cons (me_var 2) ma_nil)) (ma_cons (me_call (ok__law_unit T) (hr.mono (by decide)) (by rfl) T.g__law_unit (takes_of rfl rfl rfl rfl) (ma_cons (me_var 2) ma_nil)) ma_nil))))))))) (ms_one (ms_ret me_bl)) ms_nil)
      (ms_cons (ms_if (PW.pt (mw_or (mt_not (mt_v rfl (me_call (ok__law_says T) (hr.mono (by decide)) (by rfl) T.g__law_says (takes_of rfl rfl rfl rfl) (ma_cons (me_call (ok_is_direct T) (hr.mono (by decide)) (by rfl) T.g_is_direct (takes_of rfl rfl rfl rfl) (ma_cons (me_tup (ma_cons (me_var 5) (ma_cons (me_var 6) ma_nil))) (ma_cons (me_var 2) ma_nil))) (ma_cons (me_cmp (op_eqD hr.units) (p_eq rfl) (me_call (ok__law_rank T) (hr.mono (by decide)) (by rfl) T.g__law_rank (takes_of rfl rfl rfl rfl) (ma_cons (me_op op_addX (p_add rfl) (me_callTy call_list_of (n_lstOf rfl) (by rfl) T.z_list (by decide +kernel) (ma_cons (me_var 5) ma_nil)) (me_callTy call_list_of (n_lstOf rfl) (by rfl) T.z_list (by decide +kernel) (ma_cons (me_var 6) ma_nil))) (ma_cons (me_var 2) ma_nil))) (me_op op_addX (p_add rfl) (me_callB cr_lenX (n_len rfl) (by rfl) T.z_len (by decide +kernel) (ma_cons (me_var 5) ma_nil)) (me_callB cr_lenX (n_len rfl) (by rfl) T.z_len (by decide +kernel) (ma_cons (me_var 6) ma_nil))) (nomark _)) ma_nil))))) (mw_o1 (mt_not (mt_v rfl (me_call (ok__law_says T) (hr.mono (by decide)) (by rfl) T.g__law_says (takes_of rfl rfl rfl rfl) (ma_cons (me_call (ok_is_direct T) (hr.mono (by decide)) (by rfl) T.g_is_direct (takes_of rfl rfl rfl rfl) (ma_cons (me_tup (ma_cons (me_var 5) (ma_cons (me_call (ok_beside T) (hr.mono (by decide)) (by rfl) T.g_beside (takes_of rfl rfl rfl rfl) (ma_cons (me_var 5) (ma_cons (me_var 2) ma_nil))) ma_nil))) (ma_cons (me_var 2) ma_nil))) (ma_cons me_bl ma_nil)))))))) (ms_one (ms_ret me_bl)) ms_nil)
      (ms_cons (ms_set (i := 13) sc_law.nd rfl (by first | exact Or.inl rfl | exact Or.inr rfl) (me_op op_addX (p_add rfl) (me_var 5) (me_tup (ma_cons (me_op op_mulA (p_mulA rfl) (me_tup (ma_cons me_int ma_nil)) (me_var 2)) ma_nil))))
      (ms_cons (ms_for (passes_of rfl) rfl (mi_seq rfl (me_lst (ma_cons (me_var 5) (ma_cons (me_var 6) (ma_cons (me_callTy call_tuple_of (n_tupOf rfl) (by rfl) T.z_tuple (by decide +kernel) (ma_cons (me_var 3) ma_nil)) (ma_cons (me_var 13) (ma_cons (me_revX rfl (me_var 5)) (ma_cons (me_lc [("low", 18)] rfl sc_law.nd (mi_seq rfl (me_var 5)) (blkOk_by (N := ["script", "state", "n", "rows", "others", "told", "other", "row", "own", "inside", "rest", "leads", "free", "wide", "value", "plain", "tried", "loose", "low", "k", "c"]) (sc := defScope s_law) (own := [("low", 18)]) (by decide +kernel)) (fun _ _ _ _ _ _ => (mg_name (i := 18) sc_law.nd rfl (by first | exact Or.inl rfl | exact Or.inr rfl))) (fun _ _ _ _ _ _ => mts_nil) (fun _ _ _ _ _ _ => (me_var 18))) (ma_cons me_non (ma_cons me_int (ma_cons (me_tup (ma_cons (me_op op_mulA (p_mulA rfl) (me_tup (ma_cons me_int ma_nil)) (me_var 2)) (ma_cons (me_op op_mulA (p_mulA rfl) (me_tup (ma_cons me_int ma_nil)) (me_var 2)) ma_nil))) (ma_cons (me_tup (ma_cons (me_op op_mulA (p_mulA rfl) (me_tup (ma_cons me_bl ma_nil)) (me_var 2)) ma_nil)) (ma_cons me_str (ma_cons (me_tup (ma_cons me_non ma_nil)) (ma_cons (me_tup (ma_cons (me_op op_addX (p_add rfl) (me_tup (ma_cons me_int ma_nil)) (me_op op_mulA (p_mulA rfl) (me_tup (ma_cons me_int ma_nil)) (me_op op_subX p_sub (me_var 2) me_int))) ma_nil)) (ma_cons (me_tup (ma_cons (me_op op_addX (p_add rfl) (me_tup (ma_cons (me_e1 un_neg p_neg me_int) ma_nil)) (me_op op_mulA (p_mulA rfl) (me_tup (ma_cons me_int ma_nil)) (me_op op_subX p_sub (me_var 2) me_int))) ma_nil)) ma_nil)))))))))))))))) (mg_name (i := 14) sc_law.nd rfl (by first | exact Or.inl rfl | exact Or.inr rfl)) (ms_cons (ms_set (i := 15) sc_law.nd rfl (by first | exact Or.inl rfl | exact Or.inr rfl) (me_and (me_callB call_isi (n_isi rfl) (by rfl) T.z_isinstance (by decide +kernel) (ma_cons (me_var 14) (ma_cons (me_ty .tuple (by rfl) T.z_tuple (by decide +kernel)) ma_nil))) (me_one (me_call (ok__law_is_space T) (hr.mono (by decide)) (by rfl) T.g__law_is_space (takes_of rfl rfl rfl rfl) (ma_cons (me_var 14) (ma_cons (me_var 2) ma_nil))))))
      (ms_cons (ms_if (mt_not (mt_v rfl (me_call (ok__law_says T) (hr.mono (by decide)) (by rfl) T.g__law_says (takes_of rfl rfl rfl rfl) (ma_cons (me_call (ok_is_space T) (hr.mono (by decide)) (by rfl) T.g_is_space (takes_of rfl rfl rfl rfl) (ma_cons (me_var 14) (ma_cons (me_var 2) ma_nil))) (ma_cons (me_var 15) ma_nil))))) (ms_one (ms_ret me_bl)) ms_nil)
      (ms_cons (ms_set (i := 16) sc_law.nd rfl (by first | exact Or.inl rfl | exact Or.inr rfl) (me_lst (ma_cons (me_tup (ma_cons (me_gl 18 (by rfl) T.g_is_within) (ma_cons (me_tup (ma_cons (me_var 7) (ma_cons (me_var 14) (ma_cons (me_var 2) ma_nil)))) ma_nil))) (ma_cons (me_tup (ma_cons (me_gl 20 (by rfl) T.g_is_part) (ma_cons (me_tup (ma_cons (me_var 14) (ma_cons (me_var 5) (ma_cons (me_var 2) ma_nil)))) ma_nil))) (ma_cons (me_tup (ma_cons (me_gl 20 (by rfl) T.g_is_part) (ma_cons (me_tup (ma_cons (me_var 5) (ma_cons (me_var 14) (ma_cons (me_var 2) ma_nil)))) ma_nil))) (ma_cons (me_tup (ma_cons (me_gl 23 (by rfl) T.g_free_places) (ma_cons (me_tup (ma_cons (me_var 14) (ma_cons (me_var 2) ma_nil))) ma_nil))) (ma_cons (me_tup (ma_cons (me_gl 24 (by rfl) T.g_beside) (ma_cons (me_tup (ma_cons (me_var 14) (ma_cons (me_var 2) ma_nil))) ma_nil))) (ma_cons (me_tup (ma_cons (me_gl 25 (by rfl) T.g_is_direct) (ma_cons (me_tup (ma_cons (me_tup (ma_cons (me_var 5) (ma_cons (me_var 14) ma_nil))) (ma_cons (me_var 2) ma_nil))) ma_nil))) ma_nil))))))))
      (ms_cons (ms_if (PW.pt (mw_and (mt_not (mt_v rfl (me_var 15))) (mw_1 (mt_not (mt_v rfl (me_call (ok__law_all_malformed T (tabok1 T) (tabok2 T) (tabok3 T) (tabok4 T) (tabok5 T)) (hr.mono (by decide)) (by rfl) T.g__law_all_malformed (takes_of rfl rfl rfl rfl) (ma_cons (me_var 16) ma_nil))))))) (ms_one (ms_ret me_bl)) ms_nil)
      (ms_cons (ms_set (i := 17) sc_law.nd rfl (by first | exact Or.inl rfl | exact Or.inr rfl) (me_and (me_callB call_isiA (n_isiA rfl) (by rfl) T.z_isinstance (by decide +kernel) (ma_cons (me_var 14) (ma_cons (me_tup (ma_cons (me_ty .list (by rfl) T.z_list (by decide +kernel)) (ma_cons (me_ty .tuple (by rfl) T.z_tuple (by decide +kernel)) ma_nil))) ma_nil))) (me_one (me_callB (cr_all rfl) (n_all rfl) (by rfl) T.z_all (by decide +kernel) (ma_cons (me_lc [("own", 8)] rfl sc_law.nd (mi_seq rfl (me_var 14)) (blkOk_by (N := ["script", "state", "n", "rows", "others", "told", "other", "row", "own", "inside", "rest", "leads", "free", "wide", "value", "plain", "tried", "loose", "low", "k", "c"]) (sc := defScope s_law) (own := [("own", 8)]) (by decide +kernel)) (fun _ _ _ _ _ _ => (mg_name (i := 8) sc_law.nd rfl (by first | exact Or.inl rfl | exact Or.inr rfl))) (fun _ _ _ _ _ _ => mts_nil) (fun _ _ _ _ _ _ => (me_and (me_callB call_isi (n_isi rfl) (by rfl) T.z_isinstance (by decide +kernel) (ma_cons (me_var 8) (ma_cons (me_ty .tuple (by rfl) T.z_tuple (by decide +kernel)) ma_nil))) (me_and (me_cmp (op_eqD hr.units) (p_eq rfl) (me_callB cr_lenX (n_len rfl) (by rfl) T.z_len (by decide +kernel) (ma_cons (me_var 8) ma_nil)) (me_var 2) (nomark _)) (me_one (me_callB (cr_all rfl) (n_all rfl) (by rfl) T.z_all (by decide +kernel) (ma_cons (me_lc [("c", 20)] rfl sc_law.nd (mi_seq rfl (me_var 8)) (blkOk_1 (N := ["script", "state", "n", "rows", "others", "told", "other", "row", "own", "inside", "rest", "leads", "free", "wide", "value", "plain", "tried", "loose", "low", "k", "c"]) (sc0 := defScope s_law) (own := [("c", 20)]) rfl (by decide +kernel)) (fun _ _ _ _ _ _ => (mg_name (i := 20) sc_law.nd rfl (by first | exact Or.inl rfl | exact Or.inr rfl))) (fun _ _ _ _ _ _ => mts_nil) (fun _ _ _ _ _ _ => (me_call (ok__law_is_whole T) (hr.mono (by decide)) (by rfl) T.g__law_is_whole takes0 (ma_cons (me_var 20) ma_nil)))) ma_nil))))))) ma_nil)))))
      (ms_one (ms_if (PW.pt (mw_or (mt_not (mt_v rfl (me_call (ok__law_says T) (hr.mono (by decide)) (by rfl) T.g__law_says (takes_of rfl rfl rfl rfl) (ma_cons (me_call (ok_is_rows T) (hr.mono (by decide)) (by rfl) T.g_is_rows (takes_of rfl rfl rfl rfl) (ma_cons (me_var 14) (ma_cons (me_var 2) ma_nil))) (ma_cons (me_var 17) ma_nil))))) (mw_o1 (PW.pt (mw_and (mt_not (mt_v rfl (me_var 17))) (mw_1 (mt_not (mt_v rfl (me_call (ok__law_all_malformed T (tabok1 T) (tabok2 T) (tabok3 T) (tabok4 T) (tabok5 T)) (hr.mono (by decide)) (by rfl) T.g__law_all_malformed (takes_of rfl rfl rfl rfl) (ma_cons (me_lst (ma_cons (me_tup (ma_cons (me_gl 15 (by rfl) T.g_space_of) (ma_cons (me_tup (ma_cons (me_var 14) (ma_cons (me_var 2) ma_nil))) ma_nil))) (ma_cons (me_tup (ma_cons (me_gl 22 (by rfl) T.g_rank_of) (ma_cons (me_tup (ma_cons (me_var 14) (ma_cons (me_var 2) ma_nil))) ma_nil))) ma_nil))) ma_nil)))))))))) (ms_one (ms_ret me_bl)) ms_nil))))))))
      (ms_one (ms_ret (me_call (ok__law_all_malformed T (tabok1 T) (tabok2 T) (tabok3 T) (tabok4 T) (tabok5 T)) (hr.mono (by decide)) (by rfl) T.g__law_all_malformed (takes_of rfl rfl rfl rfl) (ma_cons (me_lst (ma_cons (me_tup (ma_cons (me_gl 15 (by rfl) T.g_space_of) (ma_cons (me_tup (ma_cons (me_tup ma_nil) (ma_cons (me_e1 un_neg p_neg me_int) ma_nil))) ma_nil))) (ma_cons (me_tup (ma_cons (me_gl 15 (by rfl) T.g_space_of) (ma_cons (me_tup (ma_cons (me_tup ma_nil) (ma_cons me_int ma_nil))) ma_nil))) (ma_cons (me_tup (ma_cons (me_gl 15 (by rfl) T.g_space_of) (ma_cons (me_tup (ma_cons (me_tup ma_nil) (ma_cons me_bl ma_nil))) ma_nil))) (ma_cons (me_tup (ma_cons (me_gl 18 (by rfl) T.g_is_within) (ma_cons (me_tup (ma_cons (me_op op_mulA (p_mulA rfl) (me_tup (ma_cons me_int ma_nil)) (me_op op_addX (p_add rfl) (me_var 2) me_int)) (ma_cons (me_var 5) (ma_cons (me_var 2) ma_nil)))) ma_nil))) (ma_cons (me_tup (ma_cons (me_gl 18 (by rfl) T.g_is_within) (ma_cons (me_tup (ma_cons me_non (ma_cons (me_var 5) (ma_cons (me_var 2) ma_nil)))) ma_nil))) (ma_cons (me_tup (ma_cons (me_gl 22 (by rfl) T.g_rank_of) (ma_cons (me_tup (ma_cons (me_tup ma_nil) (ma_cons me_non ma_nil))) ma_nil))) ma_nil))))))) ma_nil)))))))))))))))))))))
end
end K03

/-! Printed by lift.py: what the linked text's defs compute, without slots. -/
namespace K03
open PySem PySem.Spec PyProof.Rows L2 MM
def F_is_integer (a_value : D) : Res D :=
(rN fIsi [a_value, (D.ty .int)]).bind fun d1 =>
(andG d1 (D.bl false) ((rN fIsi [a_value, (D.ty .bool)]).bind fun d4 =>
(notR d4).bind fun d5 =>
.ok d5)).bind fun d6 =>
.ok d6
theorem L_is_integer (a_value : D) : FOk (f_is_integer [a_value]) (F_is_integer a_value) .val := by
  have h0 : EA [.sh a_value] (ev0 1 [a_value]) := (.cons rfl .nil)
  exact fn_R (r_last (r_ret (r_eAnd (r_eN (r_cons (r_vs h0 rfl (r_cons (r_c (r_nil (r_opN sh_isi rfl fun d1 => (r_and (K := (fun (d6 : D) => RK.val d6)) (A2 := (fun (d6 : D) => [.sh a_value])) h0 rfl (.inl rfl) (.c .r .n) (Ref.start (r_eNot (r_eN (r_cons (r_vs h0 rfl (r_cons (r_c (r_nil (r_opN sh_isi rfl fun d4 => (r_not rfl fun d5 => (Ref.fin ⟨sh_v, h0⟩))))))))))) fun d6 _ _ h8 h7 => (Ref.fin ⟨_, rfl, h8⟩))))))))))))
def F_common (a_a : D) (a_b : D) : Res D :=
(rN fAbs [a_a]).bind fun d1 =>
(rN fAbs [a_b]).bind fun d2 =>
(whR (fun s13 =>
(rc2 cNe s13.2 (D.int 0)).bind fun t16 =>
.ok t16) (fun s13 =>
(r2 fMod s13.1 s13.2).bind fun d17 =>
.ok (s13.2, d17)) 1000000000 (d1, d2)).bind fun s21 =>
.ok s21.1
theorem L_common (a_a : D) (a_b : D) : FOk (f_common [a_a, a_b]) (F_common a_a a_b) .val := by
  have h0 : EA [.sh a_a, .sh a_b] (ev0 2 [a_a, a_b]) := (.cons rfl (.cons rfl .nil))
  exact fn_R (r_par (r_eN (r_cons (r_vs h0 rfl (r_nil (r_opN sh_abs rfl fun d1 => (r_eN (r_cons (r_vs h0 rfl (r_nil (r_opN sh_abs rfl fun d2 => (have h3 := set_s h0 0 d1; have h4 := set_s h3 1 d2; (r_while (Ai := fun (s13 : D × D) => [.sh s13.1, .sh s13.2]) h4 (fun s13 _ h15 => Ref.start (r_t2 (r_vs h15 rfl (r_c (r_opB rfl rfl fun t16 => (Ref.fin ⟨rfl, h15⟩)))))) (fun s13 _ h14 => (r_last (r_par (r_vs h14 rfl (r_e2 (r_vs h14 rfl (r_vs h14 rfl (r_op2 sh_int2 rfl rfl fun d17 => (have h18 := set_s h14 0 s13.2; have h19 := set_s h18 1 d17; (Ref.fin ⟨.inl rfl, h19⟩)))))))))) fun s21 _ h20 => (r_last (r_ret (r_gs h20 rfl (Ref.fin ⟨_, rfl, sh_v⟩)))))))))))))))))
def F_unit_table (a_n : D) : Res D :=
(rLN rg1 [a_n]).bind fun l1 =>
(mapR (fun x18 =>
(rLN rg1 [a_n]).bind fun l22 =>
(mapR (fun x27 =>
(r2 (cmp cEq) x18 x27).bind fun d31 =>
(rN fInt1 [d31]).bind fun d32 =>
.ok d32) l22).bind fun l33 =>
(rN fTupOf [(D.lst l33)]).bind fun d35 =>
.ok d35) l1).bind fun l36 =>
(rN fTupOf [(D.lst l36)]).bind fun d38 =>
.ok d38
theorem L_unit_table (a_n : D) : FOk (f_unit_table [a_n]) (F_unit_table a_n) .val := by
  have h0 : EA [.sh a_n, .any, .any] (ev0 3 [a_n]) := (.cons rfl (.cons trivial (.cons trivial .nil)))
  exact fn_R (r_last (r_ret (r_eN (r_cons (r_lc (r_iN (r_cons (r_vs h0 rfl (r_nil (r_opLN rfl fun l1 => (r_map (Ai := [.sh a_n, .any, .any]) (A2 := [.sh a_n, .any, .any]) (h0.wipe [1]) (fun x18 _ h19 => (r_gNm (have h21 := set_s h19 1 x18; (Ref.start (r_eN (r_cons (r_lc (r_iN (r_cons (r_vs h21 rfl (r_nil (r_opLN rfl fun l22 => (r_map (Ai := [.sh a_n, .sh x18, .any]) (A2 := [.sh a_n, .sh x18, .any]) (h21.wipe [2]) (fun x27 _ h28 => (r_gNm (have h30 := set_s h28 2 x27; (Ref.start (r_eN (r_cons (r_e2 (r_vs h30 rfl (r_vs h30 rfl (r_op2 sh_cmp rfl rfl fun d31 => (r_nil (r_opN sh_int1 rfl fun d32 => (Ref.fin ⟨rfl, (h30.wipe [2])⟩))))))))))))) (fun _ h29 => (EA.rest0 2 h29 rfl)) fun l33 _ h34 => (r_nil (r_opN sh_tupOf rfl fun d35 => (Ref.fin ⟨rfl, (h34.wipe [1])⟩)))))))))))))))) (fun _ h20 => (EA.rest0 1 h20 rfl)) fun l36 _ h37 => (r_nil (r_opN sh_tupOf rfl fun d38 => (Ref.fin ⟨_, rfl, sh_v⟩))))))))))))))
def F_lead_of (a_row : D) : Res D :=
(rLN enumD [a_row]).bind fun l1 =>
(forRF (σ := Unit) (ρ := D) (fun s7 x8 =>
un2 x8 fun x10 x11 =>
(rc2 cNe x11 (D.int 0)).bind fun t14 =>
if t14 = true then
.ok (.rt x10) else
.ok (.nx ())) () l1).bind fun w => fwR w (fun c => .ok c) fun s16 =>
(rN fLen [a_row]).bind fun d17 =>
.ok d17
theorem L_lead_of (a_row : D) : FOk (f_lead_of [a_row]) (F_lead_of a_row) .val := by
  have h0 : EA [.sh a_row, .any, .any] (ev0 3 [a_row]) := (.cons rfl (.cons trivial (.cons trivial .nil)))
  exact fn_R (r_for (r_iN (r_cons (r_vs h0 rfl (r_nil (r_opLN rfl fun l1 => (r_forF (Ai := fun (s7 : Unit) => [.sh a_row, .any, .any]) rt_PR in_PR h0 (fun s7 x8 _ h9 => (r_g2 fun x10 x11 => (r_gNm (have h12 := set_s h9 1 x10; (r_gNm (have h13 := set_s h12 2 x11; (r_last (r_sIf (r_t2 (r_vs h13 rfl (r_c (r_opB rfl rfl fun t14 => (r_ifR (ends_PQ rt_PR.nx) (r_last (r_ret (r_gs h13 rfl (Ref.fin ⟨_, rfl, sh_v⟩)))) (r_nx (Ref.fin ⟨.inl rfl, (h13.wk (.c .r (.c .a (.c .a .n))))⟩))))))))))))))) fun s16 _ h15 => (r_last (r_ret (r_eN (r_cons (r_vs h15 rfl (r_nil (r_opN sh_len rfl fun d17 => (Ref.fin ⟨_, rfl, sh_v⟩)))))))))))))))
def F__law_state (a_script : D) : Res D :=
intR (D.int 63) fun i3 =>
(slR a_script none (some i3)).bind fun d4 =>
(rL itS d4).bind fun l6 =>
(forR (fun s32 x33 =>
(r2 fMul s32.1 (D.int 1000003)).bind fun d37 =>
(rN fAbs [x33]).bind fun d38 =>
(r2 fAdd d37 d38).bind fun d39 =>
(r2 fMul s32.2 (D.int 48271)).bind fun d42 =>
(r2 fAdd d42 x33).bind fun d43 =>
(rN fInt1 [d43]).bind fun d45 =>
(r2 fMod d45 (D.int 2147483647)).bind fun d46 =>
.ok (d39, d46)) ((D.int 0), (D.int 1)) l6).bind fun s49 =>
(rc2 cNe s49.2 (D.int 1973665155)).bind fun t51 =>
(if t51 = true then .ok s49.2 else .ok (D.int 7) : Res D).bind fun d52 =>
(rN fLst [s49.1, d52]).bind fun d55 =>
.ok d55
theorem L__law_state (a_script : D) : FOk (f__law_state [a_script]) (F__law_state a_script) .fr := by
  have h0 : EA [.sh a_script, .any, .any, .any] (ev0 4 [a_script]) := (.cons rfl (.cons trivial (.cons trivial (.cons trivial .nil))))
  exact fn_R (r_asg (r_c (have h1 := (set_sh h0 1); (r_asg (r_c (have h2 := (set_sh h1 2); (r_for (r_iV (r_eSl (r_vs h2 rfl (r_o0 (r_o1 (r_c (r_oi rfl fun i3 => (r_sl rfl fun d4 _ h5 => (r_opL (fr_d h5) fun l6 => (r_forS (Ai := fun (s32 : D × D) => [.sh a_script, .val s32.1, .sh s32.2, .any]) (h2.wk (.c .r (.c .s (.c .r (.c .r .n))))) (fun s32 x33 _ h34 => (r_gNm (have h35 := set_s h34 3 x33; (r_asg (r_e2 (r_e2 (r_vv h35 rfl fun _ h36 => (r_c (r_op2 sh_mul rfl rfl fun d37 => (r_eN (r_cons (r_vs h36 rfl (r_nil (r_opN sh_abs rfl fun d38 => (r_op2f fr_add rfl rfl fun d39 _ h40 => (have h41 := (set_fr h36 1 h40); (r_last (r_asg (r_e2 (r_eN (r_cons (r_e2 (r_e2 (r_vs h41 rfl (r_c (r_op2 sh_mul rfl rfl fun d42 => (r_vs h41 rfl (r_op2f fr_add rfl rfl fun d43 _ h44 => (r_nil (r_opN sh_int1 (lc (fr_d h44) rfl) fun d45 => (r_c (r_op2 sh_int2 rfl rfl fun d46 => (have h47 := (set_sh h41 2); (Ref.fin ⟨.inl rfl, (h47.wk (.c .r (.c .o (.c .r (.c .a .n)))))⟩)))))))))))))))))))))))))))))))))) fun s49 _ h48 => (r_last (r_ret (r_eN (r_cons (r_vv h48 rfl fun _ h50 => (r_cons (r_eIf (r_t2 (r_vs h50 rfl (r_c (r_opB rfl rfl fun t51 => (r_if (K := (fun (d52 : D) => RK.sh d52)) (A2 := (fun (d52 : D) => [.sh a_script, .sh s49.1, .sh s49.2, .any])) (Ref.start (r_vs h50 rfl (Ref.fin ⟨sh_sh, h50⟩))) (Ref.start (r_c (Ref.fin ⟨sh_sh, h50⟩))) fun d52 _ _ h54 h53 => (r_nil (r_opNf fr_lst (lc rfl (lc (val_d (sh_val h54)) rfl)) fun d55 _ h56 => (Ref.fin ⟨_, rfl, h56⟩))))))))))))))))))))))))))))))))
def F__law_take (a_state : D) (a_m : D) : Res (D × D) := noEx (
(bR a_state (Res.bind (.ok (D.int 0)) fun j => r2 fIx a_state j)).bind fun d1 =>
(rc2 cGt d1 (D.int 0)).bind fun t6 =>
if t6 = true then
(bR a_state (Res.bind (.ok (D.int 0)) fun j => r2 fIx a_state j)).bind fun d7 =>
(rN fInt1 [d7]).bind fun d12 =>
(r2 fMod d12 a_m).bind fun d13 =>
(bR a_state (Res.bind (.ok (D.int 0)) fun j => r2 fIx a_state j)).bind fun d15 =>
(r2 fFdiv d15 a_m).bind fun d20 =>
lR a_state (Res.bind (.ok (D.int 0)) fun j => (rSet a_state j d20).bind fun d21 =>
.ok (d13, d21)) else
(bR a_state (Res.bind (.ok (D.int 1)) fun j => r2 fIx a_state j)).bind fun d23 =>
(r2 fMul d23 (D.int 48271)).bind fun d28 =>
(r2 fAdd d28 (D.int 11)).bind fun d29 =>
(rN fInt1 [d29]).bind fun d31 =>
(r2 fMod d31 (D.int 2147483647)).bind fun d32 =>
lR a_state (Res.bind (.ok (D.int 1)) fun j => (rSet a_state j d32).bind fun d33 =>
(bR d33 (Res.bind (.ok (D.int 1)) fun j => r2 fIx d33 j)).bind fun d35 =>
(r2 fFdiv d35 (D.int 7)).bind fun d40 =>
(rN fInt1 [d40]).bind fun d41 =>
(r2 fMod d41 a_m).bind fun d42 =>
.ok (d42, d33)))
theorem L__law_take (a_state : D) (a_m : D) : FBk (f__law_take a_state [a_m]) (F__law_take a_state a_m) .val := by
  have h0 : EA [.bo a_state, .sh a_m, .any] (ev0B 3 a_state [a_m]) := (.cons rfl (.cons rfl (.cons trivial .nil)))
  exact fn_B0 (r_sIf (r_t2 (r_sub (K := .sh) (A2 := fun _ => [.bo a_state, .sh a_m, .any]) (ref_ixB (A2 := [.bo a_state, .sh a_m, .any]) h0 rfl (fun _ h4 => (Ref.start (r_c (Ref.fin ⟨rfl, h4⟩)))) rfl) fun d1 _ _ h5 h2 => (r_c (r_opB (val_d (sh_val h5)) rfl fun t6 => (r_ifR ends_PB (r_asg (r_e2 (r_eN (r_cons (r_sub (K := .sh) (A2 := fun _ => [.bo a_state, .sh a_m, .any]) (ref_ixB (A2 := [.bo a_state, .sh a_m, .any]) h2 rfl (fun _ h10 => (Ref.start (r_c (Ref.fin ⟨rfl, h10⟩)))) rfl) fun d7 _ _ h11 h8 => (r_nil (r_opN sh_int1 (lc (val_d (sh_val h11)) rfl) fun d12 => (r_vs h8 rfl (r_op2 sh_int2 rfl rfl fun d13 => (have h14 := (set_sh h8 2); (r_setIx (r_e2 (r_sub (K := .sh) (A2 := fun _ => [.bo a_state, .sh a_m, .sh d13]) (ref_ixB (A2 := [.bo a_state, .sh a_m, .sh d13]) h14 rfl (fun _ h18 => (Ref.start (r_c (Ref.fin ⟨rfl, h18⟩)))) rfl) fun d15 _ _ h19 h16 => (r_vs h16 rfl (r_op2 sh_int2 (val_d (sh_val h19)) rfl fun d20 => (r_setB (A2 := [.bo a_state, .sh a_m, .sh d13]) h16 rfl rfl (Ref.start (r_c (Ref.fin ⟨rfl, h16⟩))) rfl fun d21 _ h22 => (r_last (r_ret (r_gs h22 rfl (Ref.fin ⟨_, rfl, sh_v, bo_get h22⟩)))))))))))))))))))) (r_nx (r_setIx (r_e2 (r_eN (r_cons (r_e2 (r_e2 (r_sub (K := .sh) (A2 := fun _ => [.bo a_state, .sh a_m, .any]) (ref_ixB (A2 := [.bo a_state, .sh a_m, .any]) h2 rfl (fun _ h26 => (Ref.start (r_c (Ref.fin ⟨rfl, h26⟩)))) rfl) fun d23 _ _ h27 h24 => (r_c (r_op2 sh_mul (val_d (sh_val h27)) rfl fun d28 => (r_c (r_op2f fr_add rfl rfl fun d29 _ h30 => (r_nil (r_opN sh_int1 (lc (fr_d h30) rfl) fun d31 => (r_c (r_op2 sh_int2 rfl rfl fun d32 => (r_setB (A2 := [.bo a_state, .sh a_m, .any]) h24 rfl rfl (Ref.start (r_c (Ref.fin ⟨rfl, h24⟩))) rfl fun d33 _ h34 => (r_last (r_ret (r_e2 (r_eN (r_cons (r_e2 (r_sub (K := .sh) (A2 := fun _ => [.bo d33, .sh a_m, .any]) (ref_ixB (A2 := [.bo d33, .sh a_m, .any]) h34 rfl (fun _ h38 => (Ref.start (r_c (Ref.fin ⟨rfl, h38⟩)))) rfl) fun d35 _ _ h39 h36 => (r_c (r_op2 sh_int2 (val_d (sh_val h39)) rfl fun d40 => (r_nil (r_opN sh_int1 rfl fun d41 => (r_vs h36 rfl (r_op2 sh_int2 rfl rfl fun d42 => (Ref.fin ⟨_, rfl, sh_v, bo_get h36⟩)))))))))))))))))))))))))))))))))))))
def F__law_says (a_value : D) (a_due : D) : Res D :=
(rN fIsi [a_value, (D.ty .bool)]).bind fun d1 =>
(andG d1 (D.bl false) ((r2 (cmp cEq) a_value a_due).bind fun d3 =>
.ok d3)).bind fun d4 =>
.ok d4
theorem L__law_says (a_value : D) (a_due : D) : FOk (f__law_says [a_value, a_due]) (F__law_says a_value a_due) .val := by
  have h0 : EA [.sh a_value, .sh a_due] (ev0 2 [a_value, a_due]) := (.cons rfl (.cons rfl .nil))
  exact fn_R (r_last (r_ret (r_eAnd (r_eN (r_cons (r_vs h0 rfl (r_cons (r_c (r_nil (r_opN sh_isi rfl fun d1 => (r_and (K := (fun (d4 : D) => RK.val d4)) (A2 := (fun (d4 : D) => [.sh a_value, .sh a_due])) h0 rfl (.inl rfl) (.c .r (.c .r .n)) (Ref.start (r_e2 (r_vs h0 rfl (r_vs h0 rfl (r_op2 sh_cmp rfl rfl fun d3 => (Ref.fin ⟨sh_v, h0⟩)))))) fun d4 _ _ h6 h5 => (Ref.fin ⟨_, rfl, h6⟩))))))))))))
def F__law_is_whole (a_value : D) : Res D :=
(rN fIsi [a_value, (D.ty .int)]).bind fun d1 =>
(andG d1 (D.bl false) ((rN fIsi [a_value, (D.ty .bool)]).bind fun d4 =>
(notR d4).bind fun d5 =>
.ok d5)).bind fun d6 =>
.ok d6
theorem L__law_is_whole (a_value : D) : FOk (f__law_is_whole [a_value]) (F__law_is_whole a_value) .val := by
  have h0 : EA [.sh a_value] (ev0 1 [a_value]) := (.cons rfl .nil)
  exact fn_R (r_last (r_ret (r_eAnd (r_eN (r_cons (r_vs h0 rfl (r_cons (r_c (r_nil (r_opN sh_isi rfl fun d1 => (r_and (K := (fun (d6 : D) => RK.val d6)) (A2 := (fun (d6 : D) => [.sh a_value])) h0 rfl (.inl rfl) (.c .r .n) (Ref.start (r_eNot (r_eN (r_cons (r_vs h0 rfl (r_cons (r_c (r_nil (r_opN sh_isi rfl fun d4 => (r_not rfl fun d5 => (Ref.fin ⟨sh_v, h0⟩))))))))))) fun d6 _ _ h8 h7 => (Ref.fin ⟨_, rfl, h8⟩))))))))))))
def F__law_common (a_a : D) (a_b : D) : Res D :=
(rN fAbs [a_a]).bind fun d1 =>
(rN fAbs [a_b]).bind fun d2 =>
(whR (fun s15 =>
(rc2 cGt s15.2 (D.int 0)).bind fun t18 =>
.ok t18) (fun s15 =>
(rN fInt1 [s15.1]).bind fun d19 =>
(r2 fMod d19 s15.2).bind fun d20 =>
.ok (s15.2, d20)) 1000000000 (d1, d2)).bind fun s24 =>
.ok s24.1
theorem L__law_common (a_a : D) (a_b : D) : FOk (f__law_common [a_a, a_b]) (F__law_common a_a a_b) .val := by
  have h0 : EA [.sh a_a, .sh a_b] (ev0 2 [a_a, a_b]) := (.cons rfl (.cons rfl .nil))
  exact fn_R (r_par (r_eN (r_cons (r_vs h0 rfl (r_nil (r_opN sh_abs rfl fun d1 => (r_eN (r_cons (r_vs h0 rfl (r_nil (r_opN sh_abs rfl fun d2 => (have h3 := set_s h0 0 d1; have h4 := set_s h3 1 d2; (r_while (Ai := fun (s15 : D × D) => [.sh s15.1, .sh s15.2]) h4 (fun s15 _ h17 => Ref.start (r_t2 (r_vs h17 rfl (r_c (r_opB rfl rfl fun t18 => (Ref.fin ⟨rfl, h17⟩)))))) (fun s15 _ h16 => (r_last (r_par (r_vs h16 rfl (r_e2 (r_eN (r_cons (r_vs h16 rfl (r_nil (r_opN sh_int1 rfl fun d19 => (r_vs h16 rfl (r_op2 sh_int2 rfl rfl fun d20 => (have h21 := set_s h16 0 s15.2; have h22 := set_s h21 1 d20; (Ref.fin ⟨.inl rfl, h22⟩)))))))))))))) fun s24 _ h23 => (r_last (r_ret (r_gs h23 rfl (Ref.fin ⟨_, rfl, sh_v⟩)))))))))))))))))
def F__law_unit (a_n : D) : Res D :=
(rLN rg1 [a_n]).bind fun l1 =>
(mapR (fun x18 =>
(rLN rg1 [a_n]).bind fun l22 =>
(mapR (fun x27 =>
(r2 (cmp cEq) x18 x27).bind fun d31 =>
(rN fInt1 [d31]).bind fun d32 =>
.ok d32) l22).bind fun l33 =>
(rN fTupOf [(D.lst l33)]).bind fun d35 =>
.ok d35) l1).bind fun l36 =>
(rN fTupOf [(D.lst l36)]).bind fun d38 =>
.ok d38
theorem L__law_unit (a_n : D) : FOk (f__law_unit [a_n]) (F__law_unit a_n) .val := by
  have h0 : EA [.sh a_n, .any, .any] (ev0 3 [a_n]) := (.cons rfl (.cons trivial (.cons trivial .nil)))
  exact fn_R (r_last (r_ret (r_eN (r_cons (r_lc (r_iN (r_cons (r_vs h0 rfl (r_nil (r_opLN rfl fun l1 => (r_map (Ai := [.sh a_n, .any, .any]) (A2 := [.sh a_n, .any, .any]) (h0.wipe [1]) (fun x18 _ h19 => (r_gNm (have h21 := set_s h19 1 x18; (Ref.start (r_eN (r_cons (r_lc (r_iN (r_cons (r_vs h21 rfl (r_nil (r_opLN rfl fun l22 => (r_map (Ai := [.sh a_n, .sh x18, .any]) (A2 := [.sh a_n, .sh x18, .any]) (h21.wipe [2]) (fun x27 _ h28 => (r_gNm (have h30 := set_s h28 2 x27; (Ref.start (r_eN (r_cons (r_e2 (r_vs h30 rfl (r_vs h30 rfl (r_op2 sh_cmp rfl rfl fun d31 => (r_nil (r_opN sh_int1 rfl fun d32 => (Ref.fin ⟨rfl, (h30.wipe [2])⟩))))))))))))) (fun _ h29 => (EA.rest0 2 h29 rfl)) fun l33 _ h34 => (r_nil (r_opN sh_tupOf rfl fun d35 => (Ref.fin ⟨rfl, (h34.wipe [1])⟩)))))))))))))))) (fun _ h20 => (EA.rest0 1 h20 rfl)) fun l36 _ h37 => (r_nil (r_opN sh_tupOf rfl fun d38 => (Ref.fin ⟨_, rfl, sh_v⟩))))))))))))))
def F__law_lead (a_row : D) : Res D :=
(rN fLen [a_row]).bind fun d1 =>
(rLN rg1 [d1]).bind fun l2 =>
(compR (fun x7 =>
(r2 fIx a_row x7).bind fun d11 =>
(rc2 cNe d11 (D.int 0)).bind fun t12 =>
if t12 = true then
.ok (some x7) else .ok none) l2).bind fun l13 =>
(rN fLen [(D.lst l13)]).bind fun d17 =>
(rc2 cGt d17 (D.int 0)).bind fun t18 =>
(if t18 = true then (r2 fIx (D.lst l13) (D.int 0)).bind fun d22 =>
.ok d22 else (rN fLen [a_row]).bind fun d23 =>
.ok d23 : Res D).bind fun d21 =>
.ok d21
theorem L__law_lead (a_row : D) : FOk (f__law_lead [a_row]) (F__law_lead a_row) .val := by
  have h0 : EA [.sh a_row, .any, .any] (ev0 3 [a_row]) := (.cons rfl (.cons trivial (.cons trivial .nil)))
  exact fn_R (r_asg (r_lc (r_iN (r_cons (r_eN (r_cons (r_vs h0 rfl (r_nil (r_opN sh_len rfl fun d1 => (r_nil (r_opLN rfl fun l2 => (r_comp (Ai := [.sh a_row, .any, .any]) (A2 := [.sh a_row, .any, .any]) (h0.wipe [2]) (fun x7 _ h8 => (r_gNm (have h10 := set_s h8 2 x7; (r_t2 (r_e2 (r_vs h10 rfl (r_vs h10 rfl (r_op2 sh_ix rfl rfl fun d11 => (r_c (r_opB rfl rfl fun t12 => (r_tif (r_vs h10 rfl (Ref.fin ⟨congrArg some rfl, (h10.wipe [2])⟩)) (Ref.fin ⟨rfl, (h10.wipe [2])⟩)))))))))))) (fun _ h9 => (EA.rest0 2 h9 rfl)) fun l13 _ h14 => (have h15 := (set_frl h14 1); (r_last (r_ret (r_eIf (r_t2 (r_eN (r_cons (r_vo h15 rfl fun _ h16 => (r_nil (r_opN sh_len rfl fun d17 => (r_c (r_opB rfl rfl fun t18 => (r_if (K := (fun (d21 : D) => RK.sh d21)) (A2 := (fun (d21 : D) => [.sh a_row, .sh (D.lst l13), .any])) (Ref.start (r_e2 (r_vs h16 rfl (r_c (r_op2 sh_ix rfl rfl fun d22 => (Ref.fin ⟨sh_sh, h16⟩)))))) (Ref.start (r_eN (r_cons (r_vs h16 rfl (r_nil (r_opN sh_len rfl fun d23 => (Ref.fin ⟨sh_sh, h16⟩))))))) fun d21 _ _ h25 h24 => (Ref.fin ⟨_, rfl, (sh_val h25)⟩))))))))))))))))))))))))))
def F_is_row (a_value : D) : Res D :=
(rN fIsi [a_value, (D.ty .tuple)]).bind fun d1 =>
(andG d1 (D.bl false) ((rL itS a_value).bind fun l16 =>
(mapR (fun x21 =>
(F_is_integer x21).bind fun d25 =>
.ok d25) l16).bind fun l27 =>
(rN fAll [(D.lst l27)]).bind fun d29 =>
.ok d29)).bind fun d30 =>
.ok d30
theorem L_is_row (a_value : D) : FOk (f_is_row [a_value]) (F_is_row a_value) .val := by
  have h0 : EA [.sh a_value, .any] (ev0 2 [a_value]) := (.cons rfl (.cons trivial .nil))
  exact fn_R (r_last (r_ret (r_eAnd (r_eN (r_cons (r_vs h0 rfl (r_cons (r_c (r_nil (r_opN sh_isi rfl fun d1 => (r_and (K := (fun (d30 : D) => RK.val d30)) (A2 := (fun (d30 : D) => [.sh a_value, .any])) h0 rfl (.inl rfl) (.c .r (.c .r .n)) (Ref.start (r_eN (r_cons (r_lc (r_iV (r_vs h0 rfl (r_opL rfl fun l16 => (r_map (Ai := [.sh a_value, .any]) (A2 := [.sh a_value, .any]) (h0.wipe [1]) (fun x21 _ h22 => (r_gNm (have h24 := set_s h22 1 x21; (Ref.start (r_call (r_cons (r_vs h24 rfl (r_nil (r_cgo (K := .val) rfl rfl (L_is_integer x21) fun d25 _ h26 => (Ref.fin ⟨(val_d h26), (h24.wipe [1])⟩)))))))))) (fun _ h23 => (EA.rest0 1 h23 rfl)) fun l27 _ h28 => (r_nil (r_opN sh_all rfl fun d29 => (Ref.fin ⟨sh_v, h28⟩))))))))))) fun d30 _ _ h32 h31 => (Ref.fin ⟨_, rfl, h32⟩))))))))))))
def F_check_from (a_n : D) (a_low : D) (a_high : D) : Res D :=
(F_is_integer a_n).bind fun d1 =>
(rTru d1).bind fun t3 =>
(orB (!t3) true ((chR cLe cLe a_low a_n (.ok a_high)).bind fun t6 =>
.ok (!t6))).bind fun t8 =>
if t8 = true then
.ex ⟨1, none⟩ else
.ok .non
theorem L_check_from (a_n : D) (a_low : D) (a_high : D) : FOk (f_check_from [a_n, a_low, a_high]) (F_check_from a_n a_low a_high) .val := by
  have h0 : EA [.sh a_n, .sh a_low, .sh a_high] (ev0 3 [a_n, a_low, a_high]) := (.cons rfl (.cons rfl (.cons rfl .nil)))
  exact fn_N (r_last (r_sIf (r_tOr (r_tNot (r_tV (r_call (r_cons (r_vs h0 rfl (r_nil (r_cgo (K := .val) rfl rfl (L_is_integer a_n) fun d1 _ h2 => (r_tru (val_d h2) fun t3 => (r_orB (Kd := (fun (t8 : Bool) => t8)) (A2 := (fun (t8 : Bool) => [.sh a_n, .sh a_low, .sh a_high])) h0 rfl (.c .r (.c .r (.c .r .n))) (Ref.start (r_tNot (r_tChain (r_vs h0 rfl (r_vs h0 rfl (r_ch (A2 := [.sh a_n, .sh a_low, .sh a_high]) h0 rfl rfl (.c .r (.c .r (.c .r .n))) (Ref.start (r_vs h0 rfl (Ref.fin ⟨rfl, h0⟩))) fun t6 _ h7 => (Ref.fin ⟨rfl, h7⟩))))))) fun t8 _ h9 => (r_ifR ends_F (r_last r_raise) (r_nx (Ref.fin (.inr ⟨rfl, rfl⟩))))))))))))))))
def F_common_of (a_row : D) : Res D :=
(rL itS a_row).bind fun l2 =>
(forRF (σ := D) (ρ := D) (fun s15 x16 =>
(F_common s15 x16).bind fun d19 =>
(rc2 cEq d19 (D.int 1)).bind fun t23 =>
if t23 = true then
.ok (.rt (D.int 1)) else
.ok (.nx d19)) (D.int 0) l2).bind fun w => fwR w (fun c => .ok c) fun s25 =>
.ok s25
theorem L_common_of (a_row : D) : FOk (f_common_of [a_row]) (F_common_of a_row) .val := by
  have h0 : EA [.sh a_row, .any, .any] (ev0 3 [a_row]) := (.cons rfl (.cons trivial (.cons trivial .nil)))
  exact fn_R (r_asg (r_c (have h1 := (set_sh h0 1); (r_for (r_iV (r_vs h1 rfl (r_opL rfl fun l2 => (r_forF (Ai := fun (s15 : D) => [.sh a_row, .sh s15, .any]) rt_PR in_PR h1 (fun s15 x16 _ h17 => (r_gNm (have h18 := set_s h17 2 x16; (r_asg (r_call (r_cons (r_vs h18 rfl (r_cons (r_vs h18 rfl (r_nil (r_cgo (K := .val) rfl rfl (L_common s15 x16) fun d19 _ h20 => (have h21 := (set_val h18 1 h20); (r_last (r_sIf (r_t2 (r_vv h21 rfl fun _ h22 => (r_c (r_opB rfl rfl fun t23 => (r_ifR (ends_PQ rt_PR.nx) (r_last (r_ret (r_c (Ref.fin ⟨_, rfl, sh_v⟩)))) (r_nx (Ref.fin ⟨.inl rfl, (h22.wk (.c .r (.c .r (.c .a .n))))⟩))))))))))))))))))))) fun s25 _ h24 => (r_last (r_ret (r_gs h24 rfl (Ref.fin ⟨_, rfl, sh_v⟩))))))))))))
def F_whole_space (a_n : D) : Res D :=
(F_unit_table a_n).bind fun d1 =>
.ok d1
theorem L_whole_space (a_n : D) : FOk (f_whole_space [a_n]) (F_whole_space a_n) .val := by
  have h0 : EA [.sh a_n] (ev0 1 [a_n]) := (.cons rfl .nil)
  exact fn_R (r_last (r_ret (r_call (r_cons (r_vs h0 rfl (r_nil (r_cgo (K := .val) rfl rfl (L_unit_table a_n) fun d1 _ h2 => (Ref.fin ⟨_, rfl, h2⟩))))))))
def F__law_slim (a_row : D) : Res D :=
(rL itS a_row).bind fun l2 =>
(forR (fun s12 x13 =>
(F__law_common s12 x13).bind fun d17 =>
.ok d17) (D.int 0) l2).bind fun s21 =>
(rc2 cEq s21 (D.int 0)).bind fun t23 =>
if t23 = true then
(rN fTupOf [a_row]).bind fun d24 =>
.ok d24 else
(rL itS a_row).bind fun l25 =>
(compR (fun x29 =>
(rc2 cNe x29 (D.int 0)).bind fun t33 =>
if t33 = true then
.ok (some x29) else .ok none) l25).bind fun l34 =>
(r2 fIx (D.lst l34) (D.int 0)).bind fun d36 =>
(rc2 cGt d36 (D.int 0)).bind fun t38 =>
(if t38 = true then .ok s21 else (r1 fNeg s21).bind fun d41 =>
.ok d41 : Res D).bind fun d40 =>
(rL itS a_row).bind fun l45 =>
(mapR (fun x50 =>
(r2 fFdiv x50 d40).bind fun d55 =>
.ok d55) l45).bind fun l56 =>
(rN fTupOf [(D.lst l56)]).bind fun d58 =>
.ok d58
theorem L__law_slim (a_row : D) : FOk (f__law_slim [a_row]) (F__law_slim a_row) .val := by
  have h0 : EA [.sh a_row, .any, .any, .any] (ev0 4 [a_row]) := (.cons rfl (.cons trivial (.cons trivial (.cons trivial .nil))))
  exact fn_R (r_asg (r_c (have h1 := (set_sh h0 1); (r_for (r_iV (r_vs h1 rfl (r_opL rfl fun l2 => (r_forS (Ai := fun (s12 : D) => [.sh a_row, .val s12, .any, .any]) (h1.wk (.c .r (.c .s (.c .r (.c .r .n))))) (fun s12 x13 _ h14 => (r_gNm (have h15 := set_s h14 2 x13; (r_last (r_asg (r_call (r_cons (r_vv h15 rfl fun _ h16 => (r_cons (r_vs h16 rfl (r_nil (r_cgo (K := .val) rfl rfl (L__law_common s12 x13) fun d17 _ h18 => (have h19 := (set_val h16 1 h18); (Ref.fin ⟨.inl rfl, (h19.wk (.c .r (.c .r (.c .a (.c .r .n)))))⟩)))))))))))))) fun s21 _ h20 => (r_sIf (r_t2 (r_vv h20 rfl fun _ h22 => (r_c (r_opB rfl rfl fun t23 => (r_ifR ends_PR (r_last (r_ret (r_eN (r_cons (r_vs h22 rfl (r_nil (r_opN sh_tupOf rfl fun d24 => (Ref.fin ⟨_, rfl, sh_v⟩)))))))) (r_nx (r_asg (r_e2 (r_lc (r_iV (r_vs h22 rfl (r_opL rfl fun l25 => (r_comp (Ai := [.sh a_row, .sh s21, .any, .any]) (A2 := [.sh a_row, .sh s21, .any, .any]) (h22.wipe [2]) (fun x29 _ h30 => (r_gNm (have h32 := set_s h30 2 x29; (r_t2 (r_vs h32 rfl (r_c (r_opB rfl rfl fun t33 => (r_tif (r_vs h32 rfl (Ref.fin ⟨congrArg some rfl, (h32.wipe [2])⟩)) (Ref.fin ⟨rfl, (h32.wipe [2])⟩))))))))) (fun _ h31 => (EA.rest0 2 h31 rfl)) fun l34 _ h35 => (r_c (r_op2 sh_ix rfl rfl fun d36 => (have h37 := (set_sh h35 3); (r_asg (r_eIf (r_t2 (r_vs h37 rfl (r_c (r_opB rfl rfl fun t38 => (r_if (K := (fun (d40 : D) => RK.sh d40)) (A2 := (fun (d40 : D) => [.sh a_row, .sh s21, .any, .sh d36])) (Ref.start (r_vs h37 rfl (Ref.fin ⟨sh_sh, h37⟩))) (Ref.start (r_e1 (r_vs h37 rfl (r_op1 sh_neg rfl fun d41 => (Ref.fin ⟨sh_sh, h37⟩))))) fun d40 _ _ h43 h42 => (have h44 := (set_val h42 1 (sh_val h43)); (r_last (r_ret (r_eN (r_cons (r_lc (r_iV (r_vs h44 rfl (r_opL rfl fun l45 => (r_map (Ai := [.sh a_row, .val d40, .any, .sh d36]) (A2 := [.sh a_row, .val d40, .any, .sh d36]) (h44.wipe [2]) (fun x50 _ h51 => (r_gNm (have h53 := set_s h51 2 x50; (Ref.start (r_e2 (r_vs h53 rfl (r_vv h53 rfl fun _ h54 => (r_op2 sh_int2 rfl rfl fun d55 => (Ref.fin ⟨rfl, ((h54.wipe [2]).wk (.c .r (.c .s (.c .r (.c .r .n)))))⟩))))))))) (fun _ h52 => (EA.rest0 2 h52 rfl)) fun l56 _ h57 => (r_nil (r_opN sh_tupOf rfl fun d58 => (Ref.fin ⟨_, rfl, sh_v⟩)))))))))))))))))))))))))))))))))))))))))))))
def F__law_number (a_state : D) : Res (D × D) := noEx (
(F__law_take a_state (D.int 7)).bind fun p1 =>
(r2 fSub p1.1 (D.int 3)).bind fun d4 =>
.ok (d4, p1.2))
theorem L__law_number (a_state : D) : FBk (f__law_number a_state []) (F__law_number a_state) .val := by
  have h0 : EA [.bo a_state] (ev0B 1 a_state []) := (.cons rfl .nil)
  exact fn_B0 (r_last (r_ret (r_e2 (r_callBB h0 rfl (r_cons (r_c (r_nil (r_goBB (K := .val) h0 rfl rfl rfl (L__law_take a_state (D.int 7)) fun p1 _ _ h3 h2 => (r_c (r_op2 sh_int2 (val_d h3) rfl fun d4 => (Ref.fin ⟨_, rfl, sh_v, bo_get h2⟩)))))))))))
def F_check_row (a_value : D) (a_n : D) : Res D :=
(F_is_row a_value).bind fun d1 =>
(rTru d1).bind fun t3 =>
(orB (!t3) true ((rN fLen [a_value]).bind fun d6 =>
(rc2 cNe d6 a_n).bind fun t7 =>
.ok t7)).bind fun t8 =>
if t8 = true then
.ex ⟨1, none⟩ else
.ok .non
theorem L_check_row (a_value : D) (a_n : D) : FOk (f_check_row [a_value, a_n]) (F_check_row a_value a_n) .val := by
  have h0 : EA [.sh a_value, .sh a_n] (ev0 2 [a_value, a_n]) := (.cons rfl (.cons rfl .nil))
  exact fn_N (r_last (r_sIf (r_tOr (r_tNot (r_tV (r_call (r_cons (r_vs h0 rfl (r_nil (r_cgo (K := .val) rfl rfl (L_is_row a_value) fun d1 _ h2 => (r_tru (val_d h2) fun t3 => (r_orB (Kd := (fun (t8 : Bool) => t8)) (A2 := (fun (t8 : Bool) => [.sh a_value, .sh a_n])) h0 rfl (.c .r (.c .r .n)) (Ref.start (r_t2 (r_eN (r_cons (r_vs h0 rfl (r_nil (r_opN sh_len rfl fun d6 => (r_vs h0 rfl (r_opB rfl rfl fun t7 => (Ref.fin ⟨rfl, h0⟩)))))))))) fun t8 _ h9 => (r_ifR ends_F (r_last r_raise) (r_nx (Ref.fin (.inr ⟨rfl, rfl⟩))))))))))))))))
def F_is_rows (a_value : D) (a_n : D) : Res D :=
(rN fTup [(D.ty .list), (D.ty .tuple)]).bind fun d1 =>
(rN fIsiA [a_value, d1]).bind fun d2 =>
(andG d2 (D.bl false) ((rL itS a_value).bind fun l31 =>
(mapR (fun x43 =>
(F_is_row x43).bind fun d47 =>
(andG d47 (D.bl false) ((rN fLen [x43]).bind fun d51 =>
(r2 (cmp cEq) d51 a_n).bind fun d52 =>
.ok d52)).bind fun d53 =>
.ok d53) l31).bind fun l56 =>
(rN fAll [(D.lst l56)]).bind fun d58 =>
.ok d58)).bind fun d59 =>
.ok d59
theorem L_is_rows (a_value : D) (a_n : D) : FOk (f_is_rows [a_value, a_n]) (F_is_rows a_value a_n) .val := by
  have h0 : EA [.sh a_value, .sh a_n, .any] (ev0 3 [a_value, a_n]) := (.cons rfl (.cons rfl (.cons trivial .nil)))
  exact fn_R (r_last (r_ret (r_eAnd (r_eN (r_cons (r_vs h0 rfl (r_cons (r_eN (r_cons (r_c (r_cons (r_c (r_nil (r_opN sh_tup rfl fun d1 => (r_nil (r_opN sh_isiA rfl fun d2 => (r_and (K := (fun (d59 : D) => RK.val d59)) (A2 := (fun (d59 : D) => [.sh a_value, .sh a_n, .any])) h0 rfl (.inl rfl) (.c .r (.c .r (.c .r .n))) (Ref.start (r_eN (r_cons (r_lc (r_iV (r_vs h0 rfl (r_opL rfl fun l31 => (r_map (Ai := [.sh a_value, .sh a_n, .any]) (A2 := [.sh a_value, .sh a_n, .any]) (h0.wipe [2]) (fun x43 _ h44 => (r_gNm (have h46 := set_s h44 2 x43; (Ref.start (r_eAnd (r_call (r_cons (r_vs h46 rfl (r_nil (r_cgo (K := .val) rfl rfl (L_is_row x43) fun d47 _ h48 => (r_and (K := (fun (d53 : D) => RK.val d53)) (A2 := (fun (d53 : D) => [.sh a_value, .sh a_n, .sh x43])) h46 (val_d h48) (.inl rfl) (.c .r (.c .r (.c .r .n))) (Ref.start (r_e2 (r_eN (r_cons (r_vs h46 rfl (r_nil (r_opN sh_len rfl fun d51 => (r_vs h46 rfl (r_op2 sh_cmp rfl rfl fun d52 => (Ref.fin ⟨sh_v, h46⟩)))))))))) fun d53 _ _ h55 h54 => (Ref.fin ⟨(val_d h55), (h54.wipe [2])⟩)))))))))))) (fun _ h45 => (EA.rest0 2 h45 rfl)) fun l56 _ h57 => (r_nil (r_opN sh_all rfl fun d58 => (Ref.fin ⟨sh_v, h57⟩))))))))))) fun d59 _ _ h61 h60 => (Ref.fin ⟨_, rfl, h61⟩))))))))))))))))))
def F_slim (a_row : D) : Res D :=
(F_common_of a_row).bind fun d1 =>
(rc2 cEq d1 (D.int 0)).bind fun t5 =>
if t5 = true then
(rN fTupOf [a_row]).bind fun d6 =>
.ok d6 else
(rL itS a_row).bind fun l7 =>
(compR (fun x11 =>
(rc2 cNe x11 (D.int 0)).bind fun t15 =>
if t15 = true then
.ok (some x11) else .ok none) l7).bind fun l16 =>
(r2 fIx (D.lst l16) (D.int 0)).bind fun d18 =>
(rc2 cLt d18 (D.int 0)).bind fun t20 =>
(if t20 = true then (r1 fNeg d1).bind fun d23 =>
.ok d23 else .ok d1 : Res D).bind fun d22 =>
(rL itS a_row).bind fun l27 =>
(mapR (fun x32 =>
(r2 fFdiv x32 d22).bind fun d37 =>
.ok d37) l27).bind fun l38 =>
(rN fTupOf [(D.lst l38)]).bind fun d40 =>
.ok d40
theorem L_slim (a_row : D) : FOk (f_slim [a_row]) (F_slim a_row) .val := by
  have h0 : EA [.sh a_row, .any, .any, .any] (ev0 4 [a_row]) := (.cons rfl (.cons trivial (.cons trivial (.cons trivial .nil))))
  exact fn_R (r_asg (r_call (r_cons (r_vs h0 rfl (r_nil (r_cgo (K := .val) rfl rfl (L_common_of a_row) fun d1 _ h2 => (have h3 := (set_val h0 1 h2); (r_sIf (r_t2 (r_vv h3 rfl fun _ h4 => (r_c (r_opB rfl rfl fun t5 => (r_ifR ends_PR (r_last (r_ret (r_eN (r_cons (r_vs h4 rfl (r_nil (r_opN sh_tupOf rfl fun d6 => (Ref.fin ⟨_, rfl, sh_v⟩)))))))) (r_nx (r_asg (r_e2 (r_lc (r_iV (r_vs h4 rfl (r_opL rfl fun l7 => (r_comp (Ai := [.sh a_row, .sh d1, .any, .any]) (A2 := [.sh a_row, .sh d1, .any, .any]) (h4.wipe [3]) (fun x11 _ h12 => (r_gNm (have h14 := set_s h12 3 x11; (r_t2 (r_vs h14 rfl (r_c (r_opB rfl rfl fun t15 => (r_tif (r_vs h14 rfl (Ref.fin ⟨congrArg some rfl, (h14.wipe [3])⟩)) (Ref.fin ⟨rfl, (h14.wipe [3])⟩))))))))) (fun _ h13 => (EA.rest0 3 h13 rfl)) fun l16 _ h17 => (r_c (r_op2 sh_ix rfl rfl fun d18 => (have h19 := (set_sh h17 2); (r_asg (r_eIf (r_t2 (r_vs h19 rfl (r_c (r_opB rfl rfl fun t20 => (r_if (K := (fun (d22 : D) => RK.sh d22)) (A2 := (fun (d22 : D) => [.sh a_row, .sh d1, .sh d18, .any])) (Ref.start (r_e1 (r_vs h19 rfl (r_op1 sh_neg rfl fun d23 => (Ref.fin ⟨sh_sh, h19⟩))))) (Ref.start (r_vs h19 rfl (Ref.fin ⟨sh_sh, h19⟩))) fun d22 _ _ h25 h24 => (have h26 := (set_val h24 1 (sh_val h25)); (r_last (r_ret (r_eN (r_cons (r_lc (r_iV (r_vs h26 rfl (r_opL rfl fun l27 => (r_map (Ai := [.sh a_row, .val d22, .sh d18, .any]) (A2 := [.sh a_row, .val d22, .sh d18, .any]) (h26.wipe [3]) (fun x32 _ h33 => (r_gNm (have h35 := set_s h33 3 x32; (Ref.start (r_e2 (r_vs h35 rfl (r_vv h35 rfl fun _ h36 => (r_op2 sh_int2 rfl rfl fun d37 => (Ref.fin ⟨rfl, ((h36.wipe [3]).wk (.c .r (.c .s (.c .r (.c .r .n)))))⟩))))))))) (fun _ h34 => (EA.rest0 3 h34 rfl)) fun l38 _ h39 => (r_nil (r_opN sh_tupOf rfl fun d40 => (Ref.fin ⟨_, rfl, sh_v⟩))))))))))))))))))))))))))))))))))))))))))))
def F__law_least (a_rows : D) (a_n : D) : Res D :=
(rL itS a_rows).bind fun l1 =>
(mapR (fun x5 =>
(rN fTupOf [x5]).bind fun d9 =>
.ok d9) l1).bind fun l10 =>
(rN fLst []).bind fun d12 =>
(rLN rg1 [a_n]).bind fun l16 =>
(forR (fun s572 x573 =>
(rL itS s572.1).bind fun l577 =>
(compR (fun x582 =>
(r2 fIx x582 x573).bind fun d586 =>
(rc2 cNe d586 (D.int 0)).bind fun t587 =>
if t587 = true then
.ok (some x582) else .ok none) l577).bind fun l588 =>
(rN fLen [(D.lst l588)]).bind fun d592 =>
(rc2 cGt d592 (D.int 0)).bind fun t593 =>
(if t593 = true then
(r2 fIx (D.lst l588) (D.int 0)).bind fun d723 =>
(rL itS s572.1).bind fun l725 =>
(mapR (fun x753 =>
(rLN rg1 [a_n]).bind fun l757 =>
(mapR (fun x767 =>
(r2 fIx d723 x573).bind fun d771 =>
(r2 fIx x753 x767).bind fun d772 =>
(r2 fMul d771 d772).bind fun d773 =>
(r2 fIx x753 x573).bind fun d774 =>
(r2 fIx d723 x767).bind fun d775 =>
(r2 fMul d774 d775).bind fun d776 =>
(r2 fSub d773 d776).bind fun d777 =>
.ok d777) l757).bind fun l778 =>
(F__law_slim (D.lst l778)).bind fun d780 =>
.ok d780) l725).bind fun l782 =>
(rL itS s572.2).bind fun l786 =>
(mapR (fun x814 =>
(rLN rg1 [a_n]).bind fun l818 =>
(mapR (fun x828 =>
(r2 fIx d723 x573).bind fun d832 =>
(r2 fIx x814 x828).bind fun d833 =>
(r2 fMul d832 d833).bind fun d834 =>
(r2 fIx x814 x573).bind fun d835 =>
(r2 fIx d723 x828).bind fun d836 =>
(r2 fMul d835 d836).bind fun d837 =>
(r2 fSub d834 d837).bind fun d838 =>
.ok d838) l818).bind fun l839 =>
(F__law_slim (D.lst l839)).bind fun d841 =>
.ok d841) l786).bind fun l843 =>
(F__law_slim d723).bind fun d845 =>
(rN fLst [d845]).bind fun d847 =>
(r2 fAdd (D.lst l843) d847).bind fun d849 =>
.ok ((D.lst l782), d849) else
.ok (s572.1, s572.2) : Res (D × D)).bind fun s852 =>
.ok (s852.1, s852.2)) ((D.lst l10), d12) l16).bind fun s855 =>
(rN fTupOf [s855.2]).bind fun d857 =>
.ok d857
theorem L__law_least (a_rows : D) (a_n : D) : FOk (f__law_least [a_rows, a_n]) (F__law_least a_rows a_n) .val := by
  have h0 : EA [.sh a_rows, .sh a_n, .any, .any, .any, .any, .any, .any, .any] (ev0 9 [a_rows, a_n]) := (.cons rfl (.cons rfl (.cons trivial (.cons trivial (.cons trivial (.cons trivial (.cons trivial (.cons trivial (.cons trivial .nil)))))))))
  exact fn_R (r_par (r_lc (r_iV (r_vs h0 rfl (r_opL rfl fun l1 => (r_map (Ai := [.sh a_rows, .sh a_n, .any, .any, .any, .any, .any, .any, .any]) (A2 := [.sh a_rows, .sh a_n, .any, .any, .any, .any, .any, .any, .any]) (h0.wipe [7]) (fun x5 _ h6 => (r_gNm (have h8 := set_s h6 7 x5; (Ref.start (r_eN (r_cons (r_vs h8 rfl (r_nil (r_opN sh_tupOf rfl fun d9 => (Ref.fin ⟨rfl, (h8.wipe [7])⟩)))))))))) (fun _ h7 => (EA.rest0 7 h7 rfl)) fun l10 _ h11 => (r_eN (r_nil (r_opNf fr_lst rfl fun d12 _ h13 => (par_eq 2 3 rfl (fr_d h13) (have h14 := set_s h11 2 (D.lst l10); have h15 := set_s h14 3 d12; (r_for (r_iN (r_cons (r_vs h15 rfl (r_nil (r_opLN rfl fun l16 => (r_forS (Ai := fun (s572 : D × D) => [.sh a_rows, .sh a_n, .val s572.1, .val s572.2, .any, .any, .any, .any, .any]) (h15.wk (.c .r (.c .r (.c .s (.c .s (.c .r (.c .r (.c .r (.c .r (.c .r .n)))))))))) (fun s572 x573 _ h574 => (r_gNm (have h575 := set_s h574 4 x573; (r_asg (r_lc (r_iV (r_vv h575 rfl fun _ h576 => (r_opL rfl fun l577 => (r_comp (Ai := [.sh a_rows, .sh a_n, .sh s572.1, .val s572.2, .sh x573, .any, .any, .any, .any]) (A2 := [.sh a_rows, .sh a_n, .sh s572.1, .val s572.2, .sh x573, .any, .any, .any, .any]) (h576.wipe [7]) (fun x582 _ h583 => (r_gNm (have h585 := set_s h583 7 x582; (r_t2 (r_e2 (r_vs h585 rfl (r_vs h585 rfl (r_op2 sh_ix rfl rfl fun d586 => (r_c (r_opB rfl rfl fun t587 => (r_tif (r_vs h585 rfl (Ref.fin ⟨congrArg some rfl, (h585.wipe [7])⟩)) (Ref.fin ⟨rfl, (h585.wipe [7])⟩)))))))))))) (fun _ h584 => (EA.rest0 7 h584 rfl)) fun l588 _ h589 => (have h590 := (set_frl h589 5); (r_last (r_sIf (r_t2 (r_eN (r_cons (r_vo h590 rfl fun _ h591 => (r_nil (r_opN sh_len rfl fun d592 => (r_c (r_opB rfl rfl fun t593 => (r_ifJ (Ai := fun (s852 : D × D) => [.sh a_rows, .sh a_n, .val s852.1, .val s852.2, .sh x573, .sh (D.lst l588), .any, .any, .any]) (r_asg (r_e2 (r_vs h591 rfl (r_c (r_op2 sh_ix rfl rfl fun d723 => (have h724 := (set_sh h591 6); (r_asg (r_lc (r_iV (r_vs h724 rfl (r_opL rfl fun l725 => (r_map (Ai := [.sh a_rows, .sh a_n, .sh s572.1, .val s572.2, .sh x573, .sh (D.lst l588), .sh d723, .any, .any]) (A2 := [.sh a_rows, .sh a_n, .sh s572.1, .val s572.2, .sh x573, .sh (D.lst l588), .sh d723, .any, .any]) (h724.wipe [7]) (fun x753 _ h754 => (r_gNm (have h756 := set_s h754 7 x753; (Ref.start (r_call (r_cons (r_lc (r_iN (r_cons (r_vs h756 rfl (r_nil (r_opLN rfl fun l757 => (r_map (Ai := [.sh a_rows, .sh a_n, .sh s572.1, .val s572.2, .sh x573, .sh (D.lst l588), .sh d723, .sh x753, .any]) (A2 := [.sh a_rows, .sh a_n, .sh s572.1, .val s572.2, .sh x573, .sh (D.lst l588), .sh d723, .sh x753, .any]) (h756.wipe [8]) (fun x767 _ h768 => (r_gNm (have h770 := set_s h768 8 x767; (Ref.start (r_e2 (r_e2 (r_e2 (r_vs h770 rfl (r_vs h770 rfl (r_op2 sh_ix rfl rfl fun d771 => (r_e2 (r_vs h770 rfl (r_vs h770 rfl (r_op2 sh_ix rfl rfl fun d772 => (r_op2 sh_mul rfl rfl fun d773 => (r_e2 (r_e2 (r_vs h770 rfl (r_vs h770 rfl (r_op2 sh_ix rfl rfl fun d774 => (r_e2 (r_vs h770 rfl (r_vs h770 rfl (r_op2 sh_ix rfl rfl fun d775 => (r_op2 sh_mul rfl rfl fun d776 => (r_op2 sh_int2 rfl rfl fun d777 => (Ref.fin ⟨rfl, (h770.wipe [8])⟩))))))))))))))))))))))))))) (fun _ h769 => (EA.rest0 8 h769 rfl)) fun l778 _ h779 => (r_nil (r_cgo (K := .val) rfl rfl (L__law_slim (D.lst l778)) fun d780 _ h781 => (Ref.fin ⟨(val_d h781), (h779.wipe [7])⟩)))))))))))))))) (fun _ h755 => (EA.rest0 7 h755 rfl)) fun l782 _ h783 => (have h784 := (set_frl h783 2); (r_last (r_asg (r_e2 (r_lc (r_iV (r_vv h784 rfl fun _ h785 => (r_opL rfl fun l786 => (r_map (Ai := [.sh a_rows, .sh a_n, .own (D.lst l782), .sh s572.2, .sh x573, .sh (D.lst l588), .sh d723, .any, .any]) (A2 := [.sh a_rows, .sh a_n, .own (D.lst l782), .sh s572.2, .sh x573, .sh (D.lst l588), .sh d723, .any, .any]) (h785.wipe [7]) (fun x814 _ h815 => (r_gNm (have h817 := set_s h815 7 x814; (Ref.start (r_call (r_cons (r_lc (r_iN (r_cons (r_vs h817 rfl (r_nil (r_opLN rfl fun l818 => (r_map (Ai := [.sh a_rows, .sh a_n, .own (D.lst l782), .sh s572.2, .sh x573, .sh (D.lst l588), .sh d723, .sh x814, .any]) (A2 := [.sh a_rows, .sh a_n, .own (D.lst l782), .sh s572.2, .sh x573, .sh (D.lst l588), .sh d723, .sh x814, .any]) (h817.wipe [8]) (fun x828 _ h829 => (r_gNm (have h831 := set_s h829 8 x828; (Ref.start (r_e2 (r_e2 (r_e2 (r_vs h831 rfl (r_vs h831 rfl (r_op2 sh_ix rfl rfl fun d832 => (r_e2 (r_vs h831 rfl (r_vs h831 rfl (r_op2 sh_ix rfl rfl fun d833 => (r_op2 sh_mul rfl rfl fun d834 => (r_e2 (r_e2 (r_vs h831 rfl (r_vs h831 rfl (r_op2 sh_ix rfl rfl fun d835 => (r_e2 (r_vs h831 rfl (r_vs h831 rfl (r_op2 sh_ix rfl rfl fun d836 => (r_op2 sh_mul rfl rfl fun d837 => (r_op2 sh_int2 rfl rfl fun d838 => (Ref.fin ⟨rfl, (h831.wipe [8])⟩))))))))))))))))))))))))))) (fun _ h830 => (EA.rest0 8 h830 rfl)) fun l839 _ h840 => (r_nil (r_cgo (K := .val) rfl rfl (L__law_slim (D.lst l839)) fun d841 _ h842 => (Ref.fin ⟨(val_d h842), (h840.wipe [7])⟩)))))))))))))))) (fun _ h816 => (EA.rest0 7 h816 rfl)) fun l843 _ h844 => (r_eN (r_cons (r_call (r_cons (r_vs h844 rfl (r_nil (r_cgo (K := .val) rfl rfl (L__law_slim d723) fun d845 _ h846 => (r_nil (r_opNf fr_lst (lc (val_d h846) rfl) fun d847 _ h848 => (r_op2f fr_add rfl (fr_d h848) fun d849 _ h850 => (have h851 := (set_fr h844 3 h850); (Ref.fin ⟨rfl, (h851.wk (.c .r (.c .r (.c .o (.c .o (.c .r (.c .r (.c .a (.c .r (.c .r .n))))))))))⟩))))))))))))))))))))))))))))))))) (Ref.fin ⟨rfl, (h591.wk (.c .r (.c .r (.c .s (.c .r (.c .r (.c .r (.c .r (.c .r (.c .r .n))))))))))⟩) fun s852 _ h853 => (Ref.fin ⟨.inl rfl, (h853.wk (.c .r (.c .r (.c .r (.c .r (.c .a (.c .a (.c .r (.c .r (.c .r .n))))))))))⟩)))))))))))))))))))))) fun s855 _ h854 => (r_last (r_ret (r_eN (r_cons (r_vv h854 rfl fun _ h856 => (r_nil (r_opN sh_tupOf rfl fun d857 => (Ref.fin ⟨_, rfl, sh_v⟩))))))))))))))))))))))))))
def F__law_row (a_state : D) (a_n : D) : Res (D × D) := noEx (
(rLN rg1 [a_n]).bind fun l1 =>
(mapSR (fun s10 x11 =>
(F__law_number s10).bind fun p15 =>
.ok (p15.1, p15.2)) a_state l1).bind fun l18 =>
(rN fTupOf [(D.lst l18.1)]).bind fun d20 =>
.ok (d20, l18.2))
theorem L__law_row (a_state : D) (a_n : D) : FBk (f__law_row a_state [a_n]) (F__law_row a_state a_n) .val := by
  have h0 : EA [.bo a_state, .sh a_n, .any] (ev0B 3 a_state [a_n]) := (.cons rfl (.cons rfl (.cons trivial .nil)))
  exact fn_B0 (r_last (r_ret (r_eN (r_cons (r_lc (r_iN (r_cons (r_vs h0 rfl (r_nil (r_opLN rfl fun l1 => (r_mapS (Ai := fun (s10 : D) => [.bo s10, .sh a_n, .any]) (A2 := fun (s10 : D) => [.bo s10, .sh a_n, .any]) (h0.wipe [2]) (fun s10 x11 _ h12 => (r_gNm (have h14 := set_s h12 2 x11; (Ref.start (r_callBB h14 rfl (r_nil (r_goBB (K := .val) h14 rfl rfl rfl (L__law_number s10) fun p15 _ _ h17 h16 => (Ref.fin ⟨(val_d h17), (h16.wipe [2])⟩)))))))) (fun s10 _ h13 => (EA.rest0 2 h13 rfl)) fun l18 _ h19 => (r_nil (r_opN sh_tupOf rfl fun d20 => (Ref.fin ⟨_, rfl, sh_v, bo_get h19⟩))))))))))))))
def F__law_is_space (a_value : D) (a_n : D) : Res D :=
(rN fIsi [a_value, (D.ty .tuple)]).bind fun d1 =>
(rTru d1).bind fun t2 =>
(orB (!t2) true ((rL itS a_value).bind fun l154 =>
(mapR (fun x227 =>
(rN fIsi [x227, (D.ty .tuple)]).bind fun d231 =>
(andG d231 (D.bl false) ((rN fLen [x227]).bind fun d265 =>
(r2 (cmp cEq) d265 a_n).bind fun d266 =>
(andG d266 (D.bl false) ((rL itS x227).bind fun l281 =>
(mapR (fun x286 =>
(F__law_is_whole x286).bind fun d290 =>
.ok d290) l281).bind fun l292 =>
(rN fAll [(D.lst l292)]).bind fun d294 =>
.ok d294)).bind fun d295 =>
.ok d295)).bind fun d298 =>
.ok d298) l154).bind fun l301 =>
(rN fAll [(D.lst l301)]).bind fun d303 =>
(rTru d303).bind fun t304 =>
.ok (!t304))).bind fun t305 =>
if t305 = true then
.ok (D.bl false) else
(rL itS a_value).bind fun l307 =>
(mapR (fun x312 =>
(F__law_lead x312).bind fun d316 =>
.ok d316) l307).bind fun l318 =>
(rN fLen [a_value]).bind fun d321 =>
(rLN rg1 [d321]).bind fun l322 =>
(forRF (σ := Unit) (ρ := D) (fun s591 x592 =>
(r2 fIx (D.lst l318) x592).bind fun d596 =>
(rc2 cEq d596 a_n).bind fun t597 =>
(orB t597 true ((r2 fIx a_value x592).bind fun d662 =>
(r2 fIx (D.lst l318) x592).bind fun d663 =>
(r2 fIx d662 d663).bind fun d664 =>
(rc2 cLt d664 (D.int 0)).bind fun t665 =>
(orB t665 true ((r2 fIx a_value x592).bind fun d695 =>
(F__law_slim d695).bind fun d696 =>
(r2 fIx a_value x592).bind fun d698 =>
(rc2 cNe d696 d698).bind fun t699 =>
(orB t699 true ((rc2 cGt x592 (D.int 0)).bind fun t711 =>
(andB t711 false ((r2 fIx (D.lst l318) x592).bind fun d716 =>
(r2 fSub x592 (D.int 1)).bind fun d717 =>
(r2 fIx (D.lst l318) d717).bind fun d718 =>
(rc2 cLe d716 d718).bind fun t719 =>
.ok t719)).bind fun t720 =>
.ok t720)).bind fun t722 =>
.ok t722)).bind fun t724 =>
.ok t724)).bind fun t726 =>
if t726 = true then
.ok (.rt (D.bl false)) else
.ok (.nx ())) () l322).bind fun w => fwR w (fun c => .ok c) fun s729 =>
(rN fLen [a_value]).bind fun d730 =>
(rLN rg1 [d730]).bind fun l731 =>
(mapR (fun x757 =>
(rN fLen [a_value]).bind fun d761 =>
(rLN rg1 [d761]).bind fun l762 =>
(compR (fun x771 =>
(rc2 cNe x771 x757).bind fun t775 =>
if t775 = true then
(r2 fIx a_value x771).bind fun d776 =>
(r2 fIx (D.lst l318) x757).bind fun d778 =>
(r2 fIx d776 d778).bind fun d779 =>
(r2 (cmp cEq) d779 (D.int 0)).bind fun d780 =>
.ok (some d780) else .ok none) l762).bind fun l781 =>
(rN fAll [(D.lst l781)]).bind fun d783 =>
.ok d783) l731).bind fun l784 =>
(rN fAll [(D.lst l784)]).bind fun d786 =>
.ok d786
theorem L__law_is_space (a_value : D) (a_n : D) : FOk (f__law_is_space [a_value, a_n]) (F__law_is_space a_value a_n) .val := by
  have h0 : EA [.sh a_value, .sh a_n, .any, .any, .any, .any, .any] (ev0 7 [a_value, a_n]) := (.cons rfl (.cons rfl (.cons trivial (.cons trivial (.cons trivial (.cons trivial (.cons trivial .nil)))))))
  exact fn_R (r_sIf (r_tOr (r_tNot (r_tV (r_eN (r_cons (r_vs h0 rfl (r_cons (r_c (r_nil (r_opN sh_isi rfl fun d1 => (r_tru rfl fun t2 => (r_orB (Kd := (fun (t305 : Bool) => t305)) (A2 := (fun (t305 : Bool) => [.sh a_value, .sh a_n, .any, .any, .any, .any, .any])) h0 rfl (.c .r (.c .r (.c .r (.c .r (.c .r (.c .r (.c .r .n))))))) (Ref.start (r_tNot (r_tV (r_eN (r_cons (r_lc (r_iV (r_vs h0 rfl (r_opL rfl fun l154 => (r_map (Ai := [.sh a_value, .sh a_n, .any, .any, .any, .any, .any]) (A2 := [.sh a_value, .sh a_n, .any, .any, .any, .any, .any]) (h0.wipe [4]) (fun x227 _ h228 => (r_gNm (have h230 := set_s h228 4 x227; (Ref.start (r_eAnd (r_eN (r_cons (r_vs h230 rfl (r_cons (r_c (r_nil (r_opN sh_isi rfl fun d231 => (r_and (K := (fun (d298 : D) => RK.val d298)) (A2 := (fun (d298 : D) => [.sh a_value, .sh a_n, .any, .any, .sh x227, .any, .any])) h230 rfl (.inl rfl) (.c .r (.c .r (.c .r (.c .r (.c .r (.c .r (.c .r .n))))))) (Ref.start (r_eAnd (r_e2 (r_eN (r_cons (r_vs h230 rfl (r_nil (r_opN sh_len rfl fun d265 => (r_vs h230 rfl (r_op2 sh_cmp rfl rfl fun d266 => (r_and (K := (fun (d295 : D) => RK.val d295)) (A2 := (fun (d295 : D) => [.sh a_value, .sh a_n, .any, .any, .sh x227, .any, .any])) h230 rfl (.inl rfl) (.c .r (.c .r (.c .r (.c .r (.c .r (.c .r (.c .r .n))))))) (Ref.start (r_eN (r_cons (r_lc (r_iV (r_vs h230 rfl (r_opL rfl fun l281 => (r_map (Ai := [.sh a_value, .sh a_n, .any, .any, .sh x227, .any, .any]) (A2 := [.sh a_value, .sh a_n, .any, .any, .sh x227, .any, .any]) (h230.wipe [6]) (fun x286 _ h287 => (r_gNm (have h289 := set_s h287 6 x286; (Ref.start (r_call (r_cons (r_vs h289 rfl (r_nil (r_cgo (K := .val) rfl rfl (L__law_is_whole x286) fun d290 _ h291 => (Ref.fin ⟨(val_d h291), (h289.wipe [6])⟩)))))))))) (fun _ h288 => (EA.rest0 6 h288 rfl)) fun l292 _ h293 => (r_nil (r_opN sh_all rfl fun d294 => (Ref.fin ⟨sh_v, h293⟩))))))))))) fun d295 _ _ h297 h296 => (Ref.fin ⟨h297, h296⟩)))))))))))) fun d298 _ _ h300 h299 => (Ref.fin ⟨(val_d h300), (h299.wipe [4])⟩)))))))))))))) (fun _ h229 => (EA.rest0 4 h229 rfl)) fun l301 _ h302 => (r_nil (r_opN sh_all rfl fun d303 => (r_tru rfl fun t304 => (Ref.fin ⟨rfl, h302⟩)))))))))))))) fun t305 _ h306 => (r_ifR ends_PR (r_last (r_ret (r_c (Ref.fin ⟨_, rfl, sh_v⟩)))) (r_nx (r_asg (r_lc (r_iV (r_vs h306 rfl (r_opL rfl fun l307 => (r_map (Ai := [.sh a_value, .sh a_n, .any, .any, .any, .any, .any]) (A2 := [.sh a_value, .sh a_n, .any, .any, .any, .any, .any]) (h306.wipe [4]) (fun x312 _ h313 => (r_gNm (have h315 := set_s h313 4 x312; (Ref.start (r_call (r_cons (r_vs h315 rfl (r_nil (r_cgo (K := .val) rfl rfl (L__law_lead x312) fun d316 _ h317 => (Ref.fin ⟨(val_d h317), (h315.wipe [4])⟩)))))))))) (fun _ h314 => (EA.rest0 4 h314 rfl)) fun l318 _ h319 => (have h320 := (set_frl h319 2); (r_for (r_iN (r_cons (r_eN (r_cons (r_vs h320 rfl (r_nil (r_opN sh_len rfl fun d321 => (r_nil (r_opLN rfl fun l322 => (r_forF (Ai := fun (s591 : Unit) => [.sh a_value, .sh a_n, .val (D.lst l318), .any, .any, .any, .any]) rt_PR in_PR (h320.wk (.c .r (.c .r (.c .o (.c .r (.c .r (.c .r (.c .r .n)))))))) (fun s591 x592 _ h593 => (r_gNm (have h594 := set_s h593 3 x592; (r_last (r_sIf (r_tOr (r_t2 (r_e2 (r_vv h594 rfl fun _ h595 => (r_vs h595 rfl (r_op2 sh_ix rfl rfl fun d596 => (r_vs h595 rfl (r_opB rfl rfl fun t597 => (r_orB (Kd := (fun (t726 : Bool) => t726)) (A2 := (fun (t726 : Bool) => [.sh a_value, .sh a_n, .sh (D.lst l318), .sh x592, .any, .any, .any])) h595 rfl (.c .r (.c .r (.c .r (.c .r (.c .r (.c .r (.c .r .n))))))) (Ref.start (r_tOr (r_t2 (r_e2 (r_e2 (r_vs h595 rfl (r_vs h595 rfl (r_op2 sh_ix rfl rfl fun d662 => (r_e2 (r_vs h595 rfl (r_vs h595 rfl (r_op2 sh_ix rfl rfl fun d663 => (r_op2 sh_ix rfl rfl fun d664 => (r_c (r_opB rfl rfl fun t665 => (r_orB (Kd := (fun (t724 : Bool) => t724)) (A2 := (fun (t724 : Bool) => [.sh a_value, .sh a_n, .sh (D.lst l318), .sh x592, .any, .any, .any])) h595 rfl (.c .r (.c .r (.c .r (.c .r (.c .r (.c .r (.c .r .n))))))) (Ref.start (r_tOr (r_t2 (r_call (r_cons (r_e2 (r_vs h595 rfl (r_vs h595 rfl (r_op2 sh_ix rfl rfl fun d695 => (r_nil (r_cgo (K := .val) rfl rfl (L__law_slim d695) fun d696 _ h697 => (r_e2 (r_vs h595 rfl (r_vs h595 rfl (r_op2 sh_ix rfl rfl fun d698 => (r_opB (val_d h697) rfl fun t699 => (r_orB (Kd := (fun (t722 : Bool) => t722)) (A2 := (fun (t722 : Bool) => [.sh a_value, .sh a_n, .sh (D.lst l318), .sh x592, .any, .any, .any])) h595 rfl (.c .r (.c .r (.c .r (.c .r (.c .r (.c .r (.c .r .n))))))) (Ref.start (r_tAnd (r_t2 (r_vs h595 rfl (r_c (r_opB rfl rfl fun t711 => (r_andB (Kd := (fun (t720 : Bool) => t720)) (A2 := (fun (t720 : Bool) => [.sh a_value, .sh a_n, .sh (D.lst l318), .sh x592, .any, .any, .any])) h595 rfl (.c .r (.c .r (.c .r (.c .r (.c .r (.c .r (.c .r .n))))))) (Ref.start (r_t2 (r_e2 (r_vs h595 rfl (r_vs h595 rfl (r_op2 sh_ix rfl rfl fun d716 => (r_e2 (r_vs h595 rfl (r_e2 (r_vs h595 rfl (r_c (r_op2 sh_int2 rfl rfl fun d717 => (r_op2 sh_ix rfl rfl fun d718 => (r_opB rfl rfl fun t719 => (Ref.fin ⟨rfl, h595⟩))))))))))))))) fun t720 _ h721 => (Ref.fin ⟨rfl, h721⟩)))))))) fun t722 _ h723 => (Ref.fin ⟨rfl, h723⟩)))))))))))))))))) fun t724 _ h725 => (Ref.fin ⟨rfl, h725⟩))))))))))))))))) fun t726 _ h727 => (r_ifR (ends_PQ rt_PR.nx) (r_last (r_ret (r_c (Ref.fin ⟨_, rfl, sh_v⟩)))) (r_nx (Ref.fin ⟨.inl rfl, (h727.wk (.c .r (.c .r (.c .s (.c .a (.c .r (.c .r (.c .r .n))))))))⟩))))))))))))))))) fun s729 _ h728 => (r_last (r_ret (r_eN (r_cons (r_lc (r_iN (r_cons (r_eN (r_cons (r_vs h728 rfl (r_nil (r_opN sh_len rfl fun d730 => (r_nil (r_opLN rfl fun l731 => (r_map (Ai := [.sh a_value, .sh a_n, .val (D.lst l318), .any, .any, .any, .any]) (A2 := [.sh a_value, .sh a_n, .val (D.lst l318), .any, .any, .any, .any]) (h728.wipe [3]) (fun x757 _ h758 => (r_gNm (have h760 := set_s h758 3 x757; (Ref.start (r_eN (r_cons (r_lc (r_iN (r_cons (r_eN (r_cons (r_vs h760 rfl (r_nil (r_opN sh_len rfl fun d761 => (r_nil (r_opLN rfl fun l762 => (r_comp (Ai := [.sh a_value, .sh a_n, .val (D.lst l318), .sh x757, .any, .any, .any]) (A2 := [.sh a_value, .sh a_n, .val (D.lst l318), .sh x757, .any, .any, .any]) (h760.wipe [5]) (fun x771 _ h772 => (r_gNm (have h774 := set_s h772 5 x771; (r_t2 (r_vs h774 rfl (r_vs h774 rfl (r_opB rfl rfl fun t775 => (r_tif (r_e2 (r_e2 (r_e2 (r_vs h774 rfl (r_vs h774 rfl (r_op2 sh_ix rfl rfl fun d776 => (r_e2 (r_vv h774 rfl fun _ h777 => (r_vs h777 rfl (r_op2 sh_ix rfl rfl fun d778 => (r_op2 sh_ix rfl rfl fun d779 => (r_c (r_op2 sh_cmp rfl rfl fun d780 => (Ref.fin ⟨congrArg some rfl, ((h777.wipe [5]).wk (.c .r (.c .r (.c .s (.c .r (.c .r (.c .r (.c .r .n))))))))⟩)))))))))))))) (Ref.fin ⟨rfl, (h774.wipe [5])⟩))))))))) (fun _ h773 => (EA.rest0 5 h773 rfl)) fun l781 _ h782 => (r_nil (r_opN sh_all rfl fun d783 => (Ref.fin ⟨rfl, (h782.wipe [3])⟩)))))))))))))))))))) (fun _ h759 => (EA.rest0 3 h759 rfl)) fun l784 _ h785 => (r_nil (r_opN sh_all rfl fun d786 => (Ref.fin ⟨_, rfl, sh_v⟩)))))))))))))))))))))))))))))))))))))))))))))))))))
def F_check_rows (a_value : D) (a_n : D) : Res D :=
(F_check_from a_n (D.int 0) (D.int 256)).bind fun d1 =>
(F_is_rows a_value a_n).bind fun d3 =>
(rTru d3).bind fun t5 =>
if (!t5) = true then
.ex ⟨1, none⟩ else
.ok .non
theorem L_check_rows (a_value : D) (a_n : D) : FOk (f_check_rows [a_value, a_n]) (F_check_rows a_value a_n) .val := by
  have h0 : EA [.sh a_value, .sh a_n] (ev0 2 [a_value, a_n]) := (.cons rfl (.cons rfl .nil))
  exact fn_N (r_drop (r_call (r_cons (r_vs h0 rfl (r_cons (r_c (r_cons (r_c (r_nil (r_cgo (K := .val) rfl rfl (L_check_from a_n (D.int 0) (D.int 256)) fun d1 _ h2 => (r_last (r_sIf (r_tNot (r_tV (r_call (r_cons (r_vs h0 rfl (r_cons (r_vs h0 rfl (r_nil (r_cgo (K := .val) rfl rfl (L_is_rows a_value a_n) fun d3 _ h4 => (r_tru (val_d h4) fun t5 => (r_ifR ends_F (r_last r_raise) (r_nx (Ref.fin (.inr ⟨rfl, rfl⟩))))))))))))))))))))))))))
def F_cleared (a_row : D) (a_lead : D) (a_k : D) : Res D :=
(r2 fIx a_row a_k).bind fun d1 =>
(rc2 cEq d1 (D.int 0)).bind fun t2 =>
if t2 = true then
.ok a_row else
(r2 fIx a_lead a_k).bind fun d3 =>
(r2 fIx a_row a_k).bind fun d4 =>
(rN fTup [d3, d4]).bind fun d5 =>
un2 d5 fun x6 x7 =>
(rLN zipD [a_row, a_lead]).bind fun l10 =>
(mapR (fun x19 =>
un2 x19 fun x22 x23 =>
(r2 fMul x6 x22).bind fun d26 =>
(r2 fMul x7 x23).bind fun d27 =>
(r2 fSub d26 d27).bind fun d28 =>
.ok d28) l10).bind fun l29 =>
(F_slim (D.lst l29)).bind fun d31 =>
.ok d31
theorem L_cleared (a_row : D) (a_lead : D) (a_k : D) : FOk (f_cleared [a_row, a_lead, a_k]) (F_cleared a_row a_lead a_k) .val := by
  have h0 : EA [.sh a_row, .sh a_lead, .sh a_k, .any, .any, .any, .any] (ev0 7 [a_row, a_lead, a_k]) := (.cons rfl (.cons rfl (.cons rfl (.cons trivial (.cons trivial (.cons trivial (.cons trivial .nil)))))))
  exact fn_R (r_sIf (r_t2 (r_e2 (r_vs h0 rfl (r_vs h0 rfl (r_op2 sh_ix rfl rfl fun d1 => (r_c (r_opB rfl rfl fun t2 => (r_ifR ends_PR (r_last (r_ret (r_gs h0 rfl (Ref.fin ⟨_, rfl, sh_v⟩)))) (r_nx (r_asgG (r_eN (r_cons (r_e2 (r_vs h0 rfl (r_vs h0 rfl (r_op2 sh_ix rfl rfl fun d3 => (r_cons (r_e2 (r_vs h0 rfl (r_vs h0 rfl (r_op2 sh_ix rfl rfl fun d4 => (r_nil (r_opN sh_tup rfl fun d5 => (r_g2 fun x6 x7 => (r_gNm (have h8 := set_s h0 3 x6; (r_gNm (have h9 := set_s h8 4 x7; (r_last (r_ret (r_call (r_cons (r_lc (r_iN (r_cons (r_vs h9 rfl (r_cons (r_vs h9 rfl (r_nil (r_opLN rfl fun l10 => (r_map (Ai := [.sh a_row, .sh a_lead, .sh a_k, .sh x6, .sh x7, .any, .any]) (A2 := [.sh a_row, .sh a_lead, .sh a_k, .sh x6, .sh x7, .any, .any]) (h9.wipe [5, 6]) (fun x19 _ h20 => (r_g2 fun x22 x23 => (r_gNm (have h24 := set_s h20 5 x22; (r_gNm (have h25 := set_s h24 6 x23; (Ref.start (r_e2 (r_e2 (r_vs h25 rfl (r_vs h25 rfl (r_op2 sh_mul rfl rfl fun d26 => (r_e2 (r_vs h25 rfl (r_vs h25 rfl (r_op2 sh_mul rfl rfl fun d27 => (r_op2 sh_int2 rfl rfl fun d28 => (Ref.fin ⟨rfl, (h25.wipe [5, 6])⟩)))))))))))))))))) (fun _ h21 => (EA.rest0 5 (EA.rest0 6 h21 rfl) rfl)) fun l29 _ h30 => (r_nil (r_cgo (K := .val) rfl rfl (L_slim (D.lst l29)) fun d31 _ h32 => (Ref.fin ⟨_, rfl, h32⟩)))))))))))))))))))))))))))))))))))))))))))))
def F__law_rank (a_rows : D) (a_n : D) : Res D :=
(F__law_least a_rows a_n).bind fun d1 =>
(rN fLen [d1]).bind fun d3 =>
.ok d3
theorem L__law_rank (a_rows : D) (a_n : D) : FOk (f__law_rank [a_rows, a_n]) (F__law_rank a_rows a_n) .val := by
  have h0 : EA [.sh a_rows, .sh a_n] (ev0 2 [a_rows, a_n]) := (.cons rfl (.cons rfl .nil))
  exact fn_R (r_last (r_ret (r_eN (r_cons (r_call (r_cons (r_vs h0 rfl (r_cons (r_vs h0 rfl (r_nil (r_cgo (K := .val) rfl rfl (L__law_least a_rows a_n) fun d1 _ h2 => (r_nil (r_opN sh_len (lc (val_d h2) rfl) fun d3 => (Ref.fin ⟨_, rfl, sh_v⟩))))))))))))))
def F__law_drawn_rows (a_state : D) (a_n : D) : Res (D × D) := noEx (
(F__law_take a_state (D.int 4)).bind fun p1 =>
(rLN rg1 [p1.1]).bind fun l4 =>
(mapSR (fun s13 x14 =>
(F__law_row s13 a_n).bind fun p18 =>
.ok (p18.1, p18.2)) p1.2 l4).bind fun l21 =>
(rN fLen [(D.lst l21.1)]).bind fun d24 =>
(rc2 cGt d24 (D.int 1)).bind fun t26 =>
(andB t26 (false, l21.2) ((F__law_take l21.2 (D.int 2)).bind fun p31 =>
(rc2 cEq p31.1 (D.int 0)).bind fun t34 =>
.ok (t34, p31.2))).bind fun t35 =>
(if t35.1 = true then
lR (D.lst l21.1) (
(rLN rg1 [a_n]).bind fun l79 =>
(mapR (fun x96 =>
(Res.bind (.ok (D.int 0)) fun j => r2 fIx (D.lst l21.1) j).bind fun d100 =>
(r2 fIx d100 x96).bind fun d105 =>
(r2 fMul (D.int 2) d105).bind fun d106 =>
(Res.bind (.ok (D.int 1)) fun j => r2 fIx (D.lst l21.1) j).bind fun d107 =>
(r2 fIx d107 x96).bind fun d112 =>
(r2 fSub d106 d112).bind fun d113 =>
.ok d113) l79).bind fun l114 =>
(rN fTupOf [(D.lst l114)]).bind fun d116 =>
(rOwn fAppend (D.lst l21.1) [d116]).bind fun p117 =>
.ok p117.2) else
.ok (D.lst l21.1) : Res D).bind fun s119 =>
(F__law_take t35.2 (D.int 3)).bind fun p121 =>
(rc2 cEq p121.1 (D.int 0)).bind fun t124 =>
(if t124 = true then
lR s119 (
(rN fTup [(D.int 0)]).bind fun d131 =>
(r2 fMul d131 a_n).bind fun d132 =>
(rOwn fAppend s119 [d132]).bind fun p133 =>
.ok p133.2) else
.ok s119 : Res D).bind fun s135 =>
.ok (s135, p121.2))
theorem L__law_drawn_rows (a_state : D) (a_n : D) : FBk (f__law_drawn_rows a_state [a_n]) (F__law_drawn_rows a_state a_n) .fr := by
  have h0 : EA [.bo a_state, .sh a_n, .any, .any] (ev0B 4 a_state [a_n]) := (.cons rfl (.cons rfl (.cons trivial (.cons trivial .nil))))
  exact fn_B0 (r_asg (r_lc (r_iN (r_cons (r_callBB h0 rfl (r_cons (r_c (r_nil (r_goBB (K := .val) h0 rfl rfl rfl (L__law_take a_state (D.int 4)) fun p1 _ _ h3 h2 => (r_nil (r_opLN (lc (val_d h3) rfl) fun l4 => (r_mapS (Ai := fun (s13 : D) => [.bo s13, .sh a_n, .any, .any]) (A2 := fun (s13 : D) => [.bo s13, .sh a_n, .any, .any]) (h2.wipe [3]) (fun s13 x14 _ h15 => (r_gNm (have h17 := set_s h15 3 x14; (Ref.start (r_callBB h17 rfl (r_cons (r_vs h17 rfl (r_nil (r_goBB (K := .val) h17 rfl rfl rfl (L__law_row s13 a_n) fun p18 _ _ h20 h19 => (Ref.fin ⟨(val_d h20), (h19.wipe [3])⟩)))))))))) (fun s13 _ h16 => (EA.rest0 3 h16 rfl)) fun l21 _ h22 => (have h23 := (set_frl h22 2); (r_sIf (r_tAnd (r_t2 (r_lenA h23 rfl fun d24 _ h25 => (r_c (r_opB rfl rfl fun t26 => (r_andB (Kd := (fun (t35 : Bool × D) => t35.1)) (A2 := (fun (t35 : Bool × D) => [.bo t35.2, .sh a_n, .own (D.lst l21.1), .any])) h25 rfl (.c .r (.c .r (.c .r (.c .r .n)))) (Ref.start (r_t2 (r_callBB h25 rfl (r_cons (r_c (r_nil (r_goBB (K := .val) h25 rfl rfl rfl (L__law_take l21.2 (D.int 2)) fun p31 _ _ h33 h32 => (r_c (r_opB (val_d h33) rfl fun t34 => (Ref.fin ⟨rfl, h32⟩)))))))))) fun t35 _ h36 => (r_ifJ (Ai := fun (s119 : D) => [.bo t35.2, .sh a_n, .own s119, .any]) (r_last (r_drop (r_eOwn h36 (.inl rfl) fun hs78 => (r_cons (r_eN (r_cons (r_lc (r_iN (r_cons (r_vs h36 rfl (r_nil (r_opLN rfl fun l79 => (r_map (Ai := [.bo t35.2, .sh a_n, .own (D.lst l21.1), .any]) (A2 := [.bo t35.2, .sh a_n, .own (D.lst l21.1), .any]) (h36.wipe [3]) (fun x96 _ h97 => (r_gNm (have h99 := set_s h97 3 x96; (Ref.start (r_e2 (r_e2 (r_c (r_e2 (r_sub (K := .sh) (A2 := fun _ => [.bo t35.2, .sh a_n, .own (D.lst l21.1), .sh x96]) (ref_ixO (A2 := [.bo t35.2, .sh a_n, .own (D.lst l21.1), .sh x96]) h99 rfl (fun _ h103 => (Ref.start (r_c (Ref.fin ⟨rfl, h103⟩)))) rfl) fun d100 _ _ h104 h101 => (r_vs h101 rfl (r_op2 sh_ix (val_d (sh_val h104)) rfl fun d105 => (r_op2 sh_mul rfl rfl fun d106 => (r_e2 (r_sub (K := .sh) (A2 := fun _ => [.bo t35.2, .sh a_n, .own (D.lst l21.1), .sh x96]) (ref_ixO (A2 := [.bo t35.2, .sh a_n, .own (D.lst l21.1), .sh x96]) h101 rfl (fun _ h110 => (Ref.start (r_c (Ref.fin ⟨rfl, h110⟩)))) rfl) fun d107 _ _ h111 h108 => (r_vs h108 rfl (r_op2 sh_ix (val_d (sh_val h111)) rfl fun d112 => (r_op2 sh_int2 rfl rfl fun d113 => (Ref.fin ⟨rfl, (h108.wipe [3])⟩)))))))))))))))))) (fun _ h98 => (EA.rest0 3 h98 rfl)) fun l114 _ h115 => (r_nil (r_opN sh_tupOf rfl fun d116 => (r_nil (r_own h115 rfl hs78 rfl fun p117 _ h118 => (Ref.fin ⟨rfl, h118⟩)))))))))))))))))) (Ref.fin ⟨rfl, h36⟩) fun s119 _ h120 => (r_sIf (r_t2 (r_callBB h120 rfl (r_cons (r_c (r_nil (r_goBB (K := .val) h120 rfl rfl rfl (L__law_take t35.2 (D.int 3)) fun p121 _ _ h123 h122 => (r_c (r_opB (val_d h123) rfl fun t124 => (r_ifJ (Ai := fun (s135 : D) => [.bo p121.2, .sh a_n, .own s135, .any]) (r_last (r_drop (r_eOwn h122 (.inl rfl) fun hs130 => (r_cons (r_e2 (r_eN (r_cons (r_c (r_nil (r_opN sh_tup rfl fun d131 => (r_vs h122 rfl (r_op2 sh_mul rfl rfl fun d132 => (r_nil (r_own h122 rfl hs130 rfl fun p133 _ h134 => (Ref.fin ⟨rfl, h134⟩))))))))))))))) (Ref.fin ⟨rfl, h122⟩) fun s135 _ h136 => (r_last (r_ret (r_go h136 rfl fun _ _ h138 h137 => (Ref.fin ⟨_, rfl, h138, bo_get h137⟩)))))))))))))))))))))))))))))))))))
def F_space_of (a_rows : D) (a_n : D) : Res D :=
(F_check_rows a_rows a_n).bind fun d1 =>
(rL itS a_rows).bind fun l3 =>
(compR (fun x11 =>
(F_lead_of x11).bind fun d15 =>
(rc2 cLt d15 a_n).bind fun t17 =>
if t17 = true then
(F_slim x11).bind fun d18 =>
.ok (some d18) else .ok none) l3).bind fun l20 =>
(rN fLst []).bind fun d23 =>
(rLN rg1 [a_n]).bind fun l26 =>
(forR (fun s329 x330 =>
lstR s329.1 fun l333 =>
(compR (fun x344 =>
un2 x344 fun x347 x348 =>
(r2 fIx x348 x330).bind fun d351 =>
(rc2 cNe d351 (D.int 0)).bind fun t352 =>
if t352 = true then
.ok (some x347) else .ok none) (enumL l333)).bind fun l353 =>
(rN fLen [(D.lst l353)]).bind fun d357 =>
(rc2 cGt d357 (D.int 0)).bind fun t358 =>
(if t358 = true then
lR s329.1 (
(r2 fIx (D.lst l353) (D.int 0)).bind fun d421 =>
(rOwn fPopA s329.1 [d421]).bind fun p422 =>
lstR p422.2 fun l425 =>
(mapR (fun x433 =>
(F_cleared x433 p422.1 x330).bind fun d437 =>
.ok d437) l425).bind fun l439 =>
lstR (D.lst l439) fun l442 =>
(compR (fun x451 =>
(F_lead_of x451).bind fun d455 =>
(rc2 cLt d455 a_n).bind fun t457 =>
if t457 = true then
.ok (some x451) else .ok none) l442).bind fun l458 =>
lstR s329.2 fun l461 =>
(mapR (fun x469 =>
(F_cleared x469 p422.1 x330).bind fun d473 =>
.ok d473) l461).bind fun l475 =>
lR (D.lst l475) (
(rOwn fAppend (D.lst l475) [p422.1]).bind fun p479 =>
.ok ((D.lst l458), p479.2))) else
.ok (s329.1, s329.2) : Res (D × D)).bind fun s481 =>
.ok (s481.1, s481.2)) ((D.lst l20), d23) l26).bind fun s484 =>
lstR s484.2 fun l485 =>
(mapR (fun x493 =>
(F_slim x493).bind fun d497 =>
.ok d497) l485).bind fun l499 =>
(rN fTupOf [(D.lst l499)]).bind fun d501 =>
.ok d501
theorem L_space_of (a_rows : D) (a_n : D) : FOk (f_space_of [a_rows, a_n]) (F_space_of a_rows a_n) .val := by
  have h0 : EA [.sh a_rows, .sh a_n, .any, .any, .any, .any, .any, .any, .any] (ev0 9 [a_rows, a_n]) := (.cons rfl (.cons rfl (.cons trivial (.cons trivial (.cons trivial (.cons trivial (.cons trivial (.cons trivial (.cons trivial .nil)))))))))
  exact fn_R (r_drop (r_call (r_cons (r_vs h0 rfl (r_cons (r_vs h0 rfl (r_nil (r_cgo (K := .val) rfl rfl (L_check_rows a_rows a_n) fun d1 _ h2 => (r_asg (r_lc (r_iV (r_vs h0 rfl (r_opL rfl fun l3 => (r_comp (Ai := [.sh a_rows, .sh a_n, .any, .any, .any, .any, .any, .any, .any]) (A2 := [.sh a_rows, .sh a_n, .any, .any, .any, .any, .any, .any, .any]) (h0.wipe [7]) (fun x11 _ h12 => (r_gNm (have h14 := set_s h12 7 x11; (r_t2 (r_call (r_cons (r_vs h14 rfl (r_nil (r_cgo (K := .val) rfl rfl (L_lead_of x11) fun d15 _ h16 => (r_vs h14 rfl (r_opB (val_d h16) rfl fun t17 => (r_tif (r_call (r_cons (r_vs h14 rfl (r_nil (r_cgo (K := .val) rfl rfl (L_slim x11) fun d18 _ h19 => (Ref.fin ⟨congrArg some (val_d h19), (h14.wipe [7])⟩)))))) (Ref.fin ⟨rfl, (h14.wipe [7])⟩))))))))))))) (fun _ h13 => (EA.rest0 7 h13 rfl)) fun l20 _ h21 => (have h22 := (set_frl h21 2); (r_asg (r_eN (r_nil (r_opNf fr_lst rfl fun d23 _ h24 => (have h25 := (set_fr h22 3 h24); (r_for (r_iN (r_cons (r_vs h25 rfl (r_nil (r_opLN rfl fun l26 => (r_forS (Ai := fun (s329 : D × D) => [.sh a_rows, .sh a_n, .own s329.1, .own s329.2, .any, .any, .any, .any, .any]) h25 (fun s329 x330 _ h331 => (r_gNm (have h332 := set_s h331 4 x330; (r_asg (r_lcO h332 rfl fun l333 hs334 hm335 => (have h336 := EA.set (a := .any) (s := .un) trivial 2 h332; (r_comp (Ai := [.sh a_rows, .sh a_n, .any, .own s329.2, .sh x330, .any, .any, .any, .any]) (A2 := [.sh a_rows, .sh a_n, .own s329.1, .own s329.2, .sh x330, .any, .any, .any, .any]) (h336.wipe [8, 7]) (fun x344 _ h345 => (r_g2 fun x347 x348 => (r_gNm (have h349 := set_s h345 8 x347; (r_gNm (have h350 := set_s h349 7 x348; (r_t2 (r_e2 (r_vs h350 rfl (r_vs h350 rfl (r_op2 sh_ix rfl rfl fun d351 => (r_c (r_opB rfl rfl fun t352 => (r_tif (r_vs h350 rfl (Ref.fin ⟨congrArg some rfl, (h350.wipe [8, 7])⟩)) (Ref.fin ⟨rfl, (h350.wipe [8, 7])⟩))))))))))))))) (fun _ h346 => (EA.back 2 hm335 (EA.rest0 8 (EA.rest0 7 h346 rfl) rfl) rfl)) fun l353 _ h354 => (have h355 := (set_frl h354 5); (r_last (r_sIf (r_t2 (r_eN (r_cons (r_vo h355 rfl fun _ h356 => (r_nil (r_opN sh_len rfl fun d357 => (r_c (r_opB rfl rfl fun t358 => (r_ifJ (Ai := fun (s481 : D × D) => [.sh a_rows, .sh a_n, .own s481.1, .own s481.2, .sh x330, .sh (D.lst l353), .any, .any, .any]) (r_asg (r_eOwn h356 (.inl rfl) fun hs420 => (r_cons (r_e2 (r_vs h356 rfl (r_c (r_op2 sh_ix rfl rfl fun d421 => (r_nil (r_own h356 rfl hs420 rfl fun p422 _ h423 => (have h424 := (set_sh h423 6); (r_asg (r_lcO h424 rfl fun l425 hs426 hm427 => (have h428 := EA.set (a := .any) (s := .un) trivial 2 h424; (r_map (Ai := [.sh a_rows, .sh a_n, .any, .own s329.2, .sh x330, .sh (D.lst l353), .sh p422.1, .any, .any]) (A2 := [.sh a_rows, .sh a_n, .own p422.2, .own s329.2, .sh x330, .sh (D.lst l353), .sh p422.1, .any, .any]) (h428.wipe [7]) (fun x433 _ h434 => (r_gNm (have h436 := set_s h434 7 x433; (Ref.start (r_call (r_cons (r_vs h436 rfl (r_cons (r_vs h436 rfl (r_cons (r_vs h436 rfl (r_nil (r_cgo (K := .val) rfl rfl (L_cleared x433 p422.1 x330) fun d437 _ h438 => (Ref.fin ⟨(val_d h438), (h436.wipe [7])⟩)))))))))))))) (fun _ h435 => (EA.back 2 hm427 (EA.rest0 7 h435 rfl) rfl)) fun l439 _ h440 => (have h441 := (set_frl h440 2); (r_asg (r_lcO h441 rfl fun l442 hs443 hm444 => (have h445 := EA.set (a := .any) (s := .un) trivial 2 h441; (r_comp (Ai := [.sh a_rows, .sh a_n, .any, .own s329.2, .sh x330, .sh (D.lst l353), .sh p422.1, .any, .any]) (A2 := [.sh a_rows, .sh a_n, .own (D.lst l439), .own s329.2, .sh x330, .sh (D.lst l353), .sh p422.1, .any, .any]) (h445.wipe [7]) (fun x451 _ h452 => (r_gNm (have h454 := set_s h452 7 x451; (r_t2 (r_call (r_cons (r_vs h454 rfl (r_nil (r_cgo (K := .val) rfl rfl (L_lead_of x451) fun d455 _ h456 => (r_vs h454 rfl (r_opB (val_d h456) rfl fun t457 => (r_tif (r_vs h454 rfl (Ref.fin ⟨congrArg some rfl, (h454.wipe [7])⟩)) (Ref.fin ⟨rfl, (h454.wipe [7])⟩))))))))))))) (fun _ h453 => (EA.back 2 hm444 (EA.rest0 7 h453 rfl) rfl)) fun l458 _ h459 => (have h460 := (set_frl h459 2); (r_asg (r_lcO h460 rfl fun l461 hs462 hm463 => (have h464 := EA.set (a := .any) (s := .un) trivial 3 h460; (r_map (Ai := [.sh a_rows, .sh a_n, .own (D.lst l458), .any, .sh x330, .sh (D.lst l353), .sh p422.1, .any, .any]) (A2 := [.sh a_rows, .sh a_n, .own (D.lst l458), .own s329.2, .sh x330, .sh (D.lst l353), .sh p422.1, .any, .any]) (h464.wipe [7]) (fun x469 _ h470 => (r_gNm (have h472 := set_s h470 7 x469; (Ref.start (r_call (r_cons (r_vs h472 rfl (r_cons (r_vs h472 rfl (r_cons (r_vs h472 rfl (r_nil (r_cgo (K := .val) rfl rfl (L_cleared x469 p422.1 x330) fun d473 _ h474 => (Ref.fin ⟨(val_d h474), (h472.wipe [7])⟩)))))))))))))) (fun _ h471 => (EA.back 3 hm463 (EA.rest0 7 h471 rfl) rfl)) fun l475 _ h476 => (have h477 := (set_frl h476 3); (r_last (r_drop (r_eOwn h477 (.inl rfl) fun hs478 => (r_cons (r_vs h477 rfl (r_nil (r_own h477 rfl hs478 rfl fun p479 _ h480 => (Ref.fin ⟨rfl, (h480.wk (.c .r (.c .r (.c .r (.c .r (.c .r (.c .r (.c .a (.c .r (.c .r .n))))))))))⟩))))))))))))))))))))))))))))))))) (Ref.fin ⟨rfl, h356⟩) fun s481 _ h482 => (Ref.fin ⟨.inl rfl, (h482.wk (.c .r (.c .r (.c .r (.c .r (.c .a (.c .a (.c .r (.c .r (.c .r .n))))))))))⟩)))))))))))))))))))) fun s484 _ h483 => (r_last (r_ret (r_eN (r_cons (r_lcO h483 rfl fun l485 hs486 hm487 => (have h488 := EA.set (a := .any) (s := .un) trivial 3 h483; (r_map (Ai := [.sh a_rows, .sh a_n, .own s484.1, .any, .any, .any, .any, .any, .any]) (A2 := [.sh a_rows, .sh a_n, .own s484.1, .own s484.2, .any, .any, .any, .any, .any]) (h488.wipe [7]) (fun x493 _ h494 => (r_gNm (have h496 := set_s h494 7 x493; (Ref.start (r_call (r_cons (r_vs h496 rfl (r_nil (r_cgo (K := .val) rfl rfl (L_slim x493) fun d497 _ h498 => (Ref.fin ⟨(val_d h498), (h496.wipe [7])⟩)))))))))) (fun _ h495 => (EA.back 3 hm487 (EA.rest0 7 h495 rfl) rfl)) fun l499 _ h500 => (r_nil (r_opN sh_tupOf rfl fun d501 => (Ref.fin ⟨_, rfl, sh_v⟩)))))))))))))))))))))))))))))))))))))
def F_rest_of (a_row : D) (a_space : D) : Res D :=
(rN fTupOf [a_row]).bind fun d1 =>
(rL itS a_space).bind fun l3 =>
(forR (fun s17 x18 =>
(F_lead_of x18).bind fun d22 =>
(F_cleared s17 x18 d22).bind fun d24 =>
.ok d24) d1 l3).bind fun s28 =>
.ok s28
theorem L_rest_of (a_row : D) (a_space : D) : FOk (f_rest_of [a_row, a_space]) (F_rest_of a_row a_space) .val := by
  have h0 : EA [.sh a_row, .sh a_space, .any, .any] (ev0 4 [a_row, a_space]) := (.cons rfl (.cons rfl (.cons trivial (.cons trivial .nil))))
  exact fn_R (r_asg (r_eN (r_cons (r_vs h0 rfl (r_nil (r_opN sh_tupOf rfl fun d1 => (have h2 := (set_sh h0 2); (r_for (r_iV (r_vs h2 rfl (r_opL rfl fun l3 => (r_forS (Ai := fun (s17 : D) => [.sh a_row, .sh a_space, .val s17, .any]) (h2.wk (.c .r (.c .r (.c .s (.c .r .n))))) (fun s17 x18 _ h19 => (r_gNm (have h20 := set_s h19 3 x18; (r_last (r_asg (r_call (r_cons (r_vv h20 rfl fun _ h21 => (r_cons (r_vs h21 rfl (r_cons (r_call (r_cons (r_vs h21 rfl (r_nil (r_cgo (K := .val) rfl rfl (L_lead_of x18) fun d22 _ h23 => (r_nil (r_cgo (K := .val) (lc rfl (lc rfl (lc (val_d h23) rfl))) rfl (L_cleared s17 x18 d22) fun d24 _ h25 => (have h26 := (set_val h21 2 h25); (Ref.fin ⟨.inl rfl, (h26.wk (.c .r (.c .r (.c .r (.c .a .n)))))⟩)))))))))))))))))))) fun s28 _ h27 => (r_last (r_ret (r_gv h27 rfl fun _ _ h30 h29 => (Ref.fin ⟨_, rfl, h30⟩))))))))))))))))
def F__law_within (a_row : D) (a_rows : D) (a_n : D) : Res D :=
(rN fLstOf [a_rows]).bind fun d1 =>
(rN fLst [a_row]).bind fun d3 =>
(r2 fAdd d1 d3).bind fun d5 =>
(F__law_rank d5 a_n).bind fun d7 =>
(F__law_rank a_rows a_n).bind fun d9 =>
(r2 (cmp cEq) d7 d9).bind fun d11 =>
.ok d11
theorem L__law_within (a_row : D) (a_rows : D) (a_n : D) : FOk (f__law_within [a_row, a_rows, a_n]) (F__law_within a_row a_rows a_n) .val := by
  have h0 : EA [.sh a_row, .sh a_rows, .sh a_n] (ev0 3 [a_row, a_rows, a_n]) := (.cons rfl (.cons rfl (.cons rfl .nil)))
  exact fn_R (r_last (r_ret (r_e2 (r_call (r_cons (r_e2 (r_eN (r_cons (r_vs h0 rfl (r_nil (r_opNf fr_lstOf rfl fun d1 _ h2 => (r_eN (r_cons (r_vs h0 rfl (r_nil (r_opNf fr_lst rfl fun d3 _ h4 => (r_op2f fr_add (fr_d h2) (fr_d h4) fun d5 _ h6 => (r_cons (r_vs h0 rfl (r_nil (r_cgo (K := .val) (lc (fr_d h6) (lc rfl rfl)) rfl (L__law_rank d5 a_n) fun d7 _ h8 => (r_call (r_cons (r_vs h0 rfl (r_cons (r_vs h0 rfl (r_nil (r_cgo (K := .val) rfl rfl (L__law_rank a_rows a_n) fun d9 _ h10 => (r_op2 sh_cmp (val_d h8) (val_d h10) fun d11 => (Ref.fin ⟨_, rfl, sh_v⟩))))))))))))))))))))))))))))))
def F_is_space (a_value : D) (a_n : D) : Res D :=
(rN fIsi [a_value, (D.ty .tuple)]).bind fun d1 =>
(andG d1 (D.bl false) ((F_is_rows a_value a_n).bind fun d13 =>
(andG d13 (D.bl false) ((F_space_of a_value a_n).bind fun d18 =>
(r2 (cmp cEq) d18 a_value).bind fun d20 =>
.ok d20)).bind fun d21 =>
.ok d21)).bind fun d24 =>
.ok d24
theorem L_is_space (a_value : D) (a_n : D) : FOk (f_is_space [a_value, a_n]) (F_is_space a_value a_n) .val := by
  have h0 : EA [.sh a_value, .sh a_n] (ev0 2 [a_value, a_n]) := (.cons rfl (.cons rfl .nil))
  exact fn_R (r_last (r_ret (r_eAnd (r_eN (r_cons (r_vs h0 rfl (r_cons (r_c (r_nil (r_opN sh_isi rfl fun d1 => (r_and (K := (fun (d24 : D) => RK.val d24)) (A2 := (fun (d24 : D) => [.sh a_value, .sh a_n])) h0 rfl (.inl rfl) (.c .r (.c .r .n)) (Ref.start (r_eAnd (r_call (r_cons (r_vs h0 rfl (r_cons (r_vs h0 rfl (r_nil (r_cgo (K := .val) rfl rfl (L_is_rows a_value a_n) fun d13 _ h14 => (r_and (K := (fun (d21 : D) => RK.val d21)) (A2 := (fun (d21 : D) => [.sh a_value, .sh a_n])) h0 (val_d h14) (.inl rfl) (.c .r (.c .r .n)) (Ref.start (r_e2 (r_call (r_cons (r_vs h0 rfl (r_cons (r_vs h0 rfl (r_nil (r_cgo (K := .val) rfl rfl (L_space_of a_value a_n) fun d18 _ h19 => (r_vs h0 rfl (r_op2 sh_cmp (val_d h19) rfl fun d20 => (Ref.fin ⟨sh_v, h0⟩)))))))))))) fun d21 _ _ h23 h22 => (Ref.fin ⟨h23, h22⟩))))))))))) fun d24 _ _ h26 h25 => (Ref.fin ⟨_, rfl, h26⟩))))))))))))
def F_rank_of (a_rows : D) (a_n : D) : Res D :=
(F_space_of a_rows a_n).bind fun d1 =>
(rN fLen [d1]).bind fun d3 =>
.ok d3
theorem L_rank_of (a_rows : D) (a_n : D) : FOk (f_rank_of [a_rows, a_n]) (F_rank_of a_rows a_n) .val := by
  have h0 : EA [.sh a_rows, .sh a_n] (ev0 2 [a_rows, a_n]) := (.cons rfl (.cons rfl .nil))
  exact fn_R (r_last (r_ret (r_eN (r_cons (r_call (r_cons (r_vs h0 rfl (r_cons (r_vs h0 rfl (r_nil (r_cgo (K := .val) rfl rfl (L_space_of a_rows a_n) fun d1 _ h2 => (r_nil (r_opN sh_len (lc (val_d h2) rfl) fun d3 => (Ref.fin ⟨_, rfl, sh_v⟩))))))))))))))
def F_check_space (a_value : D) (a_n : D) : Res D :=
(F_check_from a_n (D.int 0) (D.int 256)).bind fun d1 =>
(F_is_space a_value a_n).bind fun d3 =>
(rTru d3).bind fun t5 =>
if (!t5) = true then
.ex ⟨1, none⟩ else
.ok .non
theorem L_check_space (a_value : D) (a_n : D) : FOk (f_check_space [a_value, a_n]) (F_check_space a_value a_n) .val := by
  have h0 : EA [.sh a_value, .sh a_n] (ev0 2 [a_value, a_n]) := (.cons rfl (.cons rfl .nil))
  exact fn_N (r_drop (r_call (r_cons (r_vs h0 rfl (r_cons (r_c (r_cons (r_c (r_nil (r_cgo (K := .val) rfl rfl (L_check_from a_n (D.int 0) (D.int 256)) fun d1 _ h2 => (r_last (r_sIf (r_tNot (r_tV (r_call (r_cons (r_vs h0 rfl (r_cons (r_vs h0 rfl (r_nil (r_cgo (K := .val) rfl rfl (L_is_space a_value a_n) fun d3 _ h4 => (r_tru (val_d h4) fun t5 => (r_ifR ends_F (r_last r_raise) (r_nx (Ref.fin (.inr ⟨rfl, rfl⟩))))))))))))))))))))))))))
def F_is_within (a_row : D) (a_space : D) (a_n : D) : Res D :=
(F_check_row a_row a_n).bind fun d1 =>
(F_check_space a_space a_n).bind fun d3 =>
(F_rest_of a_row a_space).bind fun d5 =>
(rN fTup [(D.int 0)]).bind fun d7 =>
(r2 fMul d7 a_n).bind fun d8 =>
(r2 (cmp cEq) d5 d8).bind fun d9 =>
.ok d9
theorem L_is_within (a_row : D) (a_space : D) (a_n : D) : FOk (f_is_within [a_row, a_space, a_n]) (F_is_within a_row a_space a_n) .val := by
  have h0 : EA [.sh a_row, .sh a_space, .sh a_n] (ev0 3 [a_row, a_space, a_n]) := (.cons rfl (.cons rfl (.cons rfl .nil)))
  exact fn_R (r_drop (r_call (r_cons (r_vs h0 rfl (r_cons (r_vs h0 rfl (r_nil (r_cgo (K := .val) rfl rfl (L_check_row a_row a_n) fun d1 _ h2 => (r_drop (r_call (r_cons (r_vs h0 rfl (r_cons (r_vs h0 rfl (r_nil (r_cgo (K := .val) rfl rfl (L_check_space a_space a_n) fun d3 _ h4 => (r_last (r_ret (r_e2 (r_call (r_cons (r_vs h0 rfl (r_cons (r_vs h0 rfl (r_nil (r_cgo (K := .val) rfl rfl (L_rest_of a_row a_space) fun d5 _ h6 => (r_e2 (r_eN (r_cons (r_c (r_nil (r_opN sh_tup rfl fun d7 => (r_vs h0 rfl (r_op2 sh_mul rfl rfl fun d8 => (r_op2 sh_cmp (val_d h6) rfl fun d9 => (Ref.fin ⟨_, rfl, sh_v⟩))))))))))))))))))))))))))))))))))))
def F_is_part (a_one : D) (a_two : D) (a_n : D) : Res D :=
(F_check_space a_one a_n).bind fun d1 =>
(F_check_space a_two a_n).bind fun d3 =>
(rL itS a_one).bind fun l5 =>
(mapR (fun x13 =>
(F_rest_of x13 a_two).bind fun d17 =>
(F_lead_of d17).bind fun d19 =>
(r2 (cmp cEq) d19 a_n).bind fun d21 =>
.ok d21) l5).bind fun l22 =>
(rN fAll [(D.lst l22)]).bind fun d24 =>
.ok d24
theorem L_is_part (a_one : D) (a_two : D) (a_n : D) : FOk (f_is_part [a_one, a_two, a_n]) (F_is_part a_one a_two a_n) .val := by
  have h0 : EA [.sh a_one, .sh a_two, .sh a_n, .any] (ev0 4 [a_one, a_two, a_n]) := (.cons rfl (.cons rfl (.cons rfl (.cons trivial .nil))))
  exact fn_R (r_drop (r_call (r_cons (r_vs h0 rfl (r_cons (r_vs h0 rfl (r_nil (r_cgo (K := .val) rfl rfl (L_check_space a_one a_n) fun d1 _ h2 => (r_drop (r_call (r_cons (r_vs h0 rfl (r_cons (r_vs h0 rfl (r_nil (r_cgo (K := .val) rfl rfl (L_check_space a_two a_n) fun d3 _ h4 => (r_last (r_ret (r_eN (r_cons (r_lc (r_iV (r_vs h0 rfl (r_opL rfl fun l5 => (r_map (Ai := [.sh a_one, .sh a_two, .sh a_n, .any]) (A2 := [.sh a_one, .sh a_two, .sh a_n, .any]) (h0.wipe [3]) (fun x13 _ h14 => (r_gNm (have h16 := set_s h14 3 x13; (Ref.start (r_e2 (r_call (r_cons (r_call (r_cons (r_vs h16 rfl (r_cons (r_vs h16 rfl (r_nil (r_cgo (K := .val) rfl rfl (L_rest_of x13 a_two) fun d17 _ h18 => (r_nil (r_cgo (K := .val) (lc (val_d h18) rfl) rfl (L_lead_of d17) fun d19 _ h20 => (r_vs h16 rfl (r_op2 sh_cmp (val_d h20) rfl fun d21 => (Ref.fin ⟨rfl, (h16.wipe [3])⟩))))))))))))))))))) (fun _ h15 => (EA.rest0 3 h15 rfl)) fun l22 _ h23 => (r_nil (r_opN sh_all rfl fun d24 => (Ref.fin ⟨_, rfl, sh_v⟩))))))))))))))))))))))))))))
def F_free_places (a_space : D) (a_n : D) : Res D :=
(F_check_space a_space a_n).bind fun d1 =>
(rL itS a_space).bind fun l3 =>
(mapR (fun x8 =>
(F_lead_of x8).bind fun d12 =>
.ok d12) l3).bind fun l14 =>
(rLN rg1 [a_n]).bind fun l17 =>
(compR (fun x25 =>
(rc2 cNotIn x25 (D.lst l14)).bind fun t30 =>
if t30 = true then
.ok (some x25) else .ok none) l17).bind fun l31 =>
(rN fTupOf [(D.lst l31)]).bind fun d33 =>
.ok d33
theorem L_free_places (a_space : D) (a_n : D) : FOk (f_free_places [a_space, a_n]) (F_free_places a_space a_n) .val := by
  have h0 : EA [.sh a_space, .sh a_n, .any, .any, .any] (ev0 5 [a_space, a_n]) := (.cons rfl (.cons rfl (.cons trivial (.cons trivial (.cons trivial .nil)))))
  exact fn_R (r_drop (r_call (r_cons (r_vs h0 rfl (r_cons (r_vs h0 rfl (r_nil (r_cgo (K := .val) rfl rfl (L_check_space a_space a_n) fun d1 _ h2 => (r_asg (r_lc (r_iV (r_vs h0 rfl (r_opL rfl fun l3 => (r_map (Ai := [.sh a_space, .sh a_n, .any, .any, .any]) (A2 := [.sh a_space, .sh a_n, .any, .any, .any]) (h0.wipe [3]) (fun x8 _ h9 => (r_gNm (have h11 := set_s h9 3 x8; (Ref.start (r_call (r_cons (r_vs h11 rfl (r_nil (r_cgo (K := .val) rfl rfl (L_lead_of x8) fun d12 _ h13 => (Ref.fin ⟨(val_d h13), (h11.wipe [3])⟩)))))))))) (fun _ h10 => (EA.rest0 3 h10 rfl)) fun l14 _ h15 => (have h16 := (set_frl h15 2); (r_last (r_ret (r_eN (r_cons (r_lc (r_iN (r_cons (r_vs h16 rfl (r_nil (r_opLN rfl fun l17 => (r_comp (Ai := [.sh a_space, .sh a_n, .val (D.lst l14), .any, .any]) (A2 := [.sh a_space, .sh a_n, .val (D.lst l14), .any, .any]) ((h16.wipe [4]).wk (.c .r (.c .r (.c .o (.c .r (.c .r .n)))))) (fun x25 _ h26 => (r_gNm (have h28 := set_s h26 4 x25; (r_t2 (r_vs h28 rfl (r_vv h28 rfl fun _ h29 => (r_opB rfl rfl fun t30 => (r_tif (r_vs h29 rfl (Ref.fin ⟨congrArg some rfl, ((h29.wipe [4]).wk (.c .r (.c .r (.c .s (.c .r (.c .r .n))))))⟩)) (Ref.fin ⟨rfl, ((h29.wipe [4]).wk (.c .r (.c .r (.c .s (.c .r (.c .r .n))))))⟩))))))))) (fun _ h27 => (EA.rest0 4 h27 rfl)) fun l31 _ h32 => (r_nil (r_opN sh_tupOf rfl fun d33 => (Ref.fin ⟨_, rfl, sh_v⟩)))))))))))))))))))))))))))))
def F_is_direct (a_spaces : D) (a_n : D) : Res D :=
(rN fLst []).bind fun d1 =>
(rL itS a_spaces).bind fun l4 =>
(forR (fun s21 x22 =>
(F_check_space x22 a_n).bind fun d25 =>
lR s21 (
(rN fLstOf [x22]).bind fun d28 =>
(rOwn fExtend s21 [d28]).bind fun p30 =>
.ok p30.2)) d1 l4).bind fun s33 =>
(F_rank_of s33 a_n).bind fun d35 =>
(rN fLen [s33]).bind fun d37 =>
(r2 (cmp cEq) d35 d37).bind fun d39 =>
.ok d39
theorem L_is_direct (a_spaces : D) (a_n : D) : FOk (f_is_direct [a_spaces, a_n]) (F_is_direct a_spaces a_n) .val := by
  have h0 : EA [.sh a_spaces, .sh a_n, .any, .any] (ev0 4 [a_spaces, a_n]) := (.cons rfl (.cons rfl (.cons trivial (.cons trivial .nil))))
  exact fn_R (r_asg (r_eN (r_nil (r_opNf fr_lst rfl fun d1 _ h2 => (have h3 := (set_fr h0 2 h2); (r_for (r_iV (r_vs h3 rfl (r_opL rfl fun l4 => (r_forS (Ai := fun (s21 : D) => [.sh a_spaces, .sh a_n, .own s21, .any]) h3 (fun s21 x22 _ h23 => (r_gNm (have h24 := set_s h23 3 x22; (r_drop (r_call (r_cons (r_vs h24 rfl (r_cons (r_vs h24 rfl (r_nil (r_cgo (K := .val) rfl rfl (L_check_space x22 a_n) fun d25 _ h26 => (r_last (r_drop (r_eOwn h24 (.inl rfl) fun hs27 => (r_cons (r_eN (r_cons (r_vs h24 rfl (r_nil (r_opNf fr_lstOf rfl fun d28 _ h29 => (r_nil (r_own h24 rfl hs27 (lc (fr_d h29) rfl) fun p30 _ h31 => (Ref.fin ⟨.inl rfl, (h31.wk (.c .r (.c .r (.c .r (.c .a .n)))))⟩))))))))))))))))))))))) fun s33 _ h32 => (r_last (r_ret (r_e2 (r_call (r_cons (r_vo h32 rfl fun _ h34 => (r_cons (r_vs h34 rfl (r_nil (r_cgo (K := .val) rfl rfl (L_rank_of s33 a_n) fun d35 _ h36 => (r_lenV h34 (.inr rfl) fun d37 _ h38 => (r_op2 sh_cmp (val_d h36) rfl fun d39 => (Ref.fin ⟨_, rfl, sh_v⟩)))))))))))))))))))))))
def F_beside (a_space : D) (a_n : D) : Res D :=
(F_unit_table a_n).bind fun d1 =>
(F_free_places a_space a_n).bind fun d4 =>
(rL itS d4).bind fun l6 =>
(mapR (fun x11 =>
(r2 fIx d1 x11).bind fun d16 =>
.ok d16) l6).bind fun l17 =>
(rN fTupOf [(D.lst l17)]).bind fun d19 =>
.ok d19
theorem L_beside (a_space : D) (a_n : D) : FOk (f_beside [a_space, a_n]) (F_beside a_space a_n) .val := by
  have h0 : EA [.sh a_space, .sh a_n, .any, .any] (ev0 4 [a_space, a_n]) := (.cons rfl (.cons rfl (.cons trivial (.cons trivial .nil))))
  exact fn_R (r_asg (r_call (r_cons (r_vs h0 rfl (r_nil (r_cgo (K := .val) rfl rfl (L_unit_table a_n) fun d1 _ h2 => (have h3 := (set_val h0 2 h2); (r_last (r_ret (r_eN (r_cons (r_lc (r_iV (r_call (r_cons (r_vs h3 rfl (r_cons (r_vs h3 rfl (r_nil (r_cgo (K := .val) rfl rfl (L_free_places a_space a_n) fun d4 _ h5 => (r_opL (val_d h5) fun l6 => (r_map (Ai := [.sh a_space, .sh a_n, .val d1, .any]) (A2 := [.sh a_space, .sh a_n, .val d1, .any]) (h3.wipe [3]) (fun x11 _ h12 => (r_gNm (have h14 := set_s h12 3 x11; (Ref.start (r_e2 (r_vv h14 rfl fun _ h15 => (r_vs h15 rfl (r_op2 sh_ix rfl rfl fun d16 => (Ref.fin ⟨rfl, ((h15.wipe [3]).wk (.c .r (.c .r (.c .s (.c .r .n)))))⟩))))))))) (fun _ h13 => (EA.rest0 3 h13 rfl)) fun l17 _ h18 => (r_nil (r_opN sh_tupOf rfl fun d19 => (Ref.fin ⟨_, rfl, sh_v⟩)))))))))))))))))))))))))
def F__law_told (T1 : Nat → Option (List D → FO)) (T2 : Nat → Option (List D → FO)) (T3 : Nat → Option (List D → FO)) (T4 : Nat → Option (List D → FO)) (T5 : Nat → Option (List D → FO)) (a_act : D) (a_given : D) : Res D :=
tryR (
(rN fLen [a_given]).bind fun d1 =>
(rc2 cGt d1 (D.int 3)).bind fun t2 =>
if t2 = true then
(rN fLen [a_given]).bind fun d3 =>
(rc2 cEq d3 (D.int 4)).bind fun t4 =>
(if t4 = true then glR T4 a_act (
(r2 fIx a_given (D.int 0)).bind fun d19 =>
(r2 fIx a_given (D.int 1)).bind fun d20 =>
(r2 fIx a_given (D.int 2)).bind fun d21 =>
(r2 fIx a_given (D.int 3)).bind fun d22 =>
(callL T4 a_act [d19, d20, d21, d22]).bind fun d23 =>
.ok d23) else glR T5 a_act (
(r2 fIx a_given (D.int 0)).bind fun d25 =>
(r2 fIx a_given (D.int 1)).bind fun d26 =>
(r2 fIx a_given (D.int 2)).bind fun d27 =>
(r2 fIx a_given (D.int 3)).bind fun d28 =>
(r2 fIx a_given (D.int 4)).bind fun d29 =>
(callL T5 a_act [d25, d26, d27, d28, d29]).bind fun d30 =>
.ok d30) : Res D).bind fun d18 =>
(rN fTup [(D.str "told"), d18]).bind fun d34 =>
.ok d34 else
(rN fLen [a_given]).bind fun d35 =>
(rc2 cEq d35 (D.int 1)).bind fun t36 =>
(if t36 = true then glR T1 a_act (
(r2 fIx a_given (D.int 0)).bind fun d64 =>
(callL T1 a_act [d64]).bind fun d65 =>
.ok d65) else (rN fLen [a_given]).bind fun d67 =>
(rc2 cEq d67 (D.int 2)).bind fun t68 =>
(if t68 = true then glR T2 a_act (
(r2 fIx a_given (D.int 0)).bind fun d79 =>
(r2 fIx a_given (D.int 1)).bind fun d80 =>
(callL T2 a_act [d79, d80]).bind fun d81 =>
.ok d81) else glR T3 a_act (
(r2 fIx a_given (D.int 0)).bind fun d83 =>
(r2 fIx a_given (D.int 1)).bind fun d84 =>
(r2 fIx a_given (D.int 2)).bind fun d85 =>
(callL T3 a_act [d83, d84, d85]).bind fun d86 =>
.ok d86) : Res D).bind fun d78 =>
.ok d78 : Res D).bind fun d63 =>
(rN fTup [(D.str "told"), d63]).bind fun d92 =>
.ok d92) (hdR sub [(1, fun _ => (rN fTup [(D.str "malformed"), D.non]).bind fun d93 =>
.ok d93), (2, fun _ => .stuck)])
theorem L__law_told (T1 : Nat → Option (List D → FO)) (T2 : Nat → Option (List D → FO)) (T3 : Nat → Option (List D → FO)) (T4 : Nat → Option (List D → FO)) (T5 : Nat → Option (List D → FO)) (a_act : D) (a_given : D) : FOk (f__law_told T1 T2 T3 T4 T5 [a_act, a_given]) (F__law_told T1 T2 T3 T4 T5 a_act a_given) .val := by
  have h0 : EA [.sh a_act, .sh a_given, .any] (ev0 3 [a_act, a_given]) := (.cons rfl (.cons rfl (.cons trivial .nil)))
  exact fn_N (r_last (r_tryE ends_PN (r_sIf (r_t2 (r_eN (r_cons (r_vs h0 rfl (r_nil (r_opN sh_len rfl fun d1 => (r_c (r_opB rfl rfl fun t2 => (r_ifR ends_PR (r_last (r_ret (r_eN (r_cons (r_c (r_cons (r_eIf (r_t2 (r_eN (r_cons (r_vs h0 rfl (r_nil (r_opN sh_len rfl fun d3 => (r_c (r_opB rfl rfl fun t4 => (r_ifD (pd := (fun (d18 : D) => d18)) (A2 := (fun (d18 : D) => [.sh a_act, .sh a_given, .any])) (Ref.start (r_callL h0 rfl (r_cons (r_e2 (r_vs h0 rfl (r_c (r_op2 sh_ix rfl rfl fun d19 => (r_cons (r_e2 (r_vs h0 rfl (r_c (r_op2 sh_ix rfl rfl fun d20 => (r_cons (r_e2 (r_vs h0 rfl (r_c (r_op2 sh_ix rfl rfl fun d21 => (r_cons (r_e2 (r_vs h0 rfl (r_c (r_op2 sh_ix rfl rfl fun d22 => (r_nil (r_goL rfl rfl fun d23 _ h24 => (Ref.fin ⟨h24, h0⟩))))))))))))))))))))))))) (Ref.start (r_callL h0 rfl (r_cons (r_e2 (r_vs h0 rfl (r_c (r_op2 sh_ix rfl rfl fun d25 => (r_cons (r_e2 (r_vs h0 rfl (r_c (r_op2 sh_ix rfl rfl fun d26 => (r_cons (r_e2 (r_vs h0 rfl (r_c (r_op2 sh_ix rfl rfl fun d27 => (r_cons (r_e2 (r_vs h0 rfl (r_c (r_op2 sh_ix rfl rfl fun d28 => (r_cons (r_e2 (r_vs h0 rfl (r_c (r_op2 sh_ix rfl rfl fun d29 => (r_nil (r_goL rfl rfl fun d30 _ h31 => (Ref.fin ⟨h31, h0⟩)))))))))))))))))))))))))))))) fun d18 _ _ h33 h32 => (r_nil (r_opN sh_tup (lc rfl (lc h33 rfl)) fun d34 => (Ref.fin ⟨_, rfl, sh_v⟩))))))))))))))))))) (r_nx (r_last (r_ret (r_eN (r_cons (r_c (r_cons (r_eIf (r_t2 (r_eN (r_cons (r_vs h0 rfl (r_nil (r_opN sh_len rfl fun d35 => (r_c (r_opB rfl rfl fun t36 => (r_ifD (pd := (fun (d63 : D) => d63)) (A2 := (fun (d63 : D) => [.sh a_act, .sh a_given, .any])) (Ref.start (r_callL h0 rfl (r_cons (r_e2 (r_vs h0 rfl (r_c (r_op2 sh_ix rfl rfl fun d64 => (r_nil (r_goL rfl rfl fun d65 _ h66 => (Ref.fin ⟨h66, h0⟩)))))))))) (Ref.start (r_eIf (r_t2 (r_eN (r_cons (r_vs h0 rfl (r_nil (r_opN sh_len rfl fun d67 => (r_c (r_opB rfl rfl fun t68 => (r_ifD (pd := (fun (d78 : D) => d78)) (A2 := (fun (d78 : D) => [.sh a_act, .sh a_given, .any])) (Ref.start (r_callL h0 rfl (r_cons (r_e2 (r_vs h0 rfl (r_c (r_op2 sh_ix rfl rfl fun d79 => (r_cons (r_e2 (r_vs h0 rfl (r_c (r_op2 sh_ix rfl rfl fun d80 => (r_nil (r_goL rfl rfl fun d81 _ h82 => (Ref.fin ⟨h82, h0⟩))))))))))))))) (Ref.start (r_callL h0 rfl (r_cons (r_e2 (r_vs h0 rfl (r_c (r_op2 sh_ix rfl rfl fun d83 => (r_cons (r_e2 (r_vs h0 rfl (r_c (r_op2 sh_ix rfl rfl fun d84 => (r_cons (r_e2 (r_vs h0 rfl (r_c (r_op2 sh_ix rfl rfl fun d85 => (r_nil (r_goL rfl rfl fun d86 _ h87 => (Ref.fin ⟨h87, h0⟩)))))))))))))))))))) fun d78 _ _ h89 h88 => (Ref.fin ⟨h89, h88⟩)))))))))))) fun d63 _ _ h91 h90 => (r_nil (r_opN sh_tup (lc rfl (lc h91 rfl)) fun d92 => (Ref.fin ⟨_, rfl, sh_v⟩)))))))))))))))))))))))))))))) (.cons (fun _ _ => (r_last (r_ret (r_eN (r_cons (r_c (r_cons (r_c (r_nil (r_opN sh_tup rfl fun d93 => (Ref.fin ⟨_, rfl, sh_v⟩))))))))))) (fun _ _ _ q => q) (.cons (fun _ _ => trivial) (fun _ _ _ q => q) .nil))))
def S__law_same (self : D → D → Res D) (a_one : D) (a_two : D) : Res D :=
(rN fIsi [a_two, (D.ty .bool)]).bind fun d1 =>
(rTru d1).bind fun t2 =>
if t2 = true then
(rN fIsi [a_one, (D.ty .bool)]).bind fun d3 =>
(andG d3 (D.bl false) ((r2 (cmp cEq) a_one a_two).bind fun d5 =>
.ok d5)).bind fun d6 =>
.ok d6 else
(rN fIsi [a_two, (D.ty .tuple)]).bind fun d9 =>
(rTru d9).bind fun t10 =>
if t10 = true then
(rN fIsi [a_one, (D.ty .tuple)]).bind fun d11 =>
(andG d11 (D.bl false) ((rN fLen [a_one]).bind fun d56 =>
(rN fLen [a_two]).bind fun d57 =>
(r2 (cmp cEq) d56 d57).bind fun d58 =>
(andG d58 (D.bl false) ((rN fLen [a_two]).bind fun d78 =>
(rLN rg1 [d78]).bind fun l79 =>
(mapR (fun x86 =>
(r2 fIx a_one x86).bind fun d90 =>
(r2 fIx a_two x86).bind fun d91 =>
(self d90 d91).bind fun d92 =>
.ok d92) l79).bind fun l94 =>
(rN fAll [(D.lst l94)]).bind fun d96 =>
.ok d96)).bind fun d97 =>
.ok d97)).bind fun d100 =>
.ok d100 else
(rN fIsi [a_two, (D.ty .list)]).bind fun d103 =>
(rTru d103).bind fun t104 =>
if t104 = true then
(rN fIsi [a_one, (D.ty .tuple)]).bind fun d105 =>
(andG d105 (D.bl false) ((rN fTupOf [a_two]).bind fun d109 =>
(self a_one d109).bind fun d110 =>
.ok d110)).bind fun d112 =>
.ok d112 else
(rN fIsi [a_two, (D.ty .str)]).bind fun d115 =>
(rTru d115).bind fun t116 =>
if t116 = true then
(rN fIsi [a_one, (D.ty .str)]).bind fun d117 =>
(andG d117 (D.bl false) ((r2 (cmp cEq) a_one a_two).bind fun d119 =>
.ok d119)).bind fun d120 =>
.ok d120 else
(rc2 cIsN a_two D.non).bind fun t123 =>
if t123 = true then
(r2 (cmp cIsN) a_one D.non).bind fun d124 =>
.ok d124 else
(F__law_is_whole a_one).bind fun d125 =>
(andG d125 (D.bl false) ((r2 (cmp cEq) a_one a_two).bind fun d128 =>
.ok d128)).bind fun d129 =>
.ok d129
def F__law_same : Nat → D → D → Res D
  | 0, _, _ => .stuck
  | n + 1, a_one, a_two => S__law_same (F__law_same n) a_one a_two
theorem L__law_same (n : Nat) : ∀ (a_one : D) (a_two : D), FOk (f__law_same n [a_one, a_two]) (F__law_same n a_one a_two) .val := by
  induction n with
  | zero => intro a_one a_two; trivial
  | succ n ih =>
    intro a_one a_two
    have h0 : EA [.sh a_one, .sh a_two, .any] (ev0 3 [a_one, a_two]) := (.cons rfl (.cons rfl (.cons trivial .nil)))
    show FOk _ (S__law_same (F__law_same n) a_one a_two) _
    exact fn_R (r_sIf (r_tV (r_eN (r_cons (r_vs h0 rfl (r_cons (r_c (r_nil (r_opN sh_isi rfl fun d1 => (r_tru rfl fun t2 => (r_ifR ends_PR (r_last (r_ret (r_eAnd (r_eN (r_cons (r_vs h0 rfl (r_cons (r_c (r_nil (r_opN sh_isi rfl fun d3 => (r_and (K := (fun (d6 : D) => RK.val d6)) (A2 := (fun (d6 : D) => [.sh a_one, .sh a_two, .any])) h0 rfl (.inl rfl) (.c .r (.c .r (.c .r .n))) (Ref.start (r_e2 (r_vs h0 rfl (r_vs h0 rfl (r_op2 sh_cmp rfl rfl fun d5 => (Ref.fin ⟨sh_v, h0⟩)))))) fun d6 _ _ h8 h7 => (Ref.fin ⟨_, rfl, h8⟩)))))))))))) (r_nx (r_sIf (r_tV (r_eN (r_cons (r_vs h0 rfl (r_cons (r_c (r_nil (r_opN sh_isi rfl fun d9 => (r_tru rfl fun t10 => (r_ifR ends_PR (r_last (r_ret (r_eAnd (r_eN (r_cons (r_vs h0 rfl (r_cons (r_c (r_nil (r_opN sh_isi rfl fun d11 => (r_and (K := (fun (d100 : D) => RK.val d100)) (A2 := (fun (d100 : D) => [.sh a_one, .sh a_two, .any])) h0 rfl (.inl rfl) (.c .r (.c .r (.c .r .n))) (Ref.start (r_eAnd (r_e2 (r_eN (r_cons (r_vs h0 rfl (r_nil (r_opN sh_len rfl fun d56 => (r_eN (r_cons (r_vs h0 rfl (r_nil (r_opN sh_len rfl fun d57 => (r_op2 sh_cmp rfl rfl fun d58 => (r_and (K := (fun (d97 : D) => RK.val d97)) (A2 := (fun (d97 : D) => [.sh a_one, .sh a_two, .any])) h0 rfl (.inl rfl) (.c .r (.c .r (.c .r .n))) (Ref.start (r_eN (r_cons (r_lc (r_iN (r_cons (r_eN (r_cons (r_vs h0 rfl (r_nil (r_opN sh_len rfl fun d78 => (r_nil (r_opLN rfl fun l79 => (r_map (Ai := [.sh a_one, .sh a_two, .any]) (A2 := [.sh a_one, .sh a_two, .any]) (h0.wipe [2]) (fun x86 _ h87 => (r_gNm (have h89 := set_s h87 2 x86; (Ref.start (r_call (r_cons (r_e2 (r_vs h89 rfl (r_vs h89 rfl (r_op2 sh_ix rfl rfl fun d90 => (r_cons (r_e2 (r_vs h89 rfl (r_vs h89 rfl (r_op2 sh_ix rfl rfl fun d91 => (r_nil (r_cgo (K := .val) rfl rfl (ih d90 d91) fun d92 _ h93 => (Ref.fin ⟨(val_d h93), (h89.wipe [2])⟩)))))))))))))))))) (fun _ h88 => (EA.rest0 2 h88 rfl)) fun l94 _ h95 => (r_nil (r_opN sh_all rfl fun d96 => (Ref.fin ⟨sh_v, h95⟩))))))))))))))))) fun d97 _ _ h99 h98 => (Ref.fin ⟨h99, h98⟩)))))))))))))))) fun d100 _ _ h102 h101 => (Ref.fin ⟨_, rfl, h102⟩)))))))))))) (r_nx (r_sIf (r_tV (r_eN (r_cons (r_vs h0 rfl (r_cons (r_c (r_nil (r_opN sh_isi rfl fun d103 => (r_tru rfl fun t104 => (r_ifR ends_PR (r_last (r_ret (r_eAnd (r_eN (r_cons (r_vs h0 rfl (r_cons (r_c (r_nil (r_opN sh_isi rfl fun d105 => (r_and (K := (fun (d112 : D) => RK.val d112)) (A2 := (fun (d112 : D) => [.sh a_one, .sh a_two, .any])) h0 rfl (.inl rfl) (.c .r (.c .r (.c .r .n))) (Ref.start (r_call (r_cons (r_vs h0 rfl (r_cons (r_eN (r_cons (r_vs h0 rfl (r_nil (r_opN sh_tupOf rfl fun d109 => (r_nil (r_cgo (K := .val) rfl rfl (ih a_one d109) fun d110 _ h111 => (Ref.fin ⟨h111, h0⟩))))))))))))) fun d112 _ _ h114 h113 => (Ref.fin ⟨_, rfl, h114⟩)))))))))))) (r_nx (r_sIf (r_tV (r_eN (r_cons (r_vs h0 rfl (r_cons (r_c (r_nil (r_opN sh_isi rfl fun d115 => (r_tru rfl fun t116 => (r_ifR ends_PR (r_last (r_ret (r_eAnd (r_eN (r_cons (r_vs h0 rfl (r_cons (r_c (r_nil (r_opN sh_isi rfl fun d117 => (r_and (K := (fun (d120 : D) => RK.val d120)) (A2 := (fun (d120 : D) => [.sh a_one, .sh a_two, .any])) h0 rfl (.inl rfl) (.c .r (.c .r (.c .r .n))) (Ref.start (r_e2 (r_vs h0 rfl (r_vs h0 rfl (r_op2 sh_cmp rfl rfl fun d119 => (Ref.fin ⟨sh_v, h0⟩)))))) fun d120 _ _ h122 h121 => (Ref.fin ⟨_, rfl, h122⟩)))))))))))) (r_nx (r_sIf (r_t2 (r_vs h0 rfl (r_c (r_opB rfl rfl fun t123 => (r_ifR ends_PR (r_last (r_ret (r_e2 (r_vs h0 rfl (r_c (r_op2 sh_cmp rfl rfl fun d124 => (Ref.fin ⟨_, rfl, sh_v⟩))))))) (r_nx (r_last (r_ret (r_eAnd (r_call (r_cons (r_vs h0 rfl (r_nil (r_cgo (K := .val) rfl rfl (L__law_is_whole a_one) fun d125 _ h126 => (r_and (K := (fun (d129 : D) => RK.val d129)) (A2 := (fun (d129 : D) => [.sh a_one, .sh a_two, .any])) h0 (val_d h126) (.inl rfl) (.c .r (.c .r (.c .r .n))) (Ref.start (r_e2 (r_vs h0 rfl (r_vs h0 rfl (r_op2 sh_cmp rfl rfl fun d128 => (Ref.fin ⟨sh_v, h0⟩)))))) fun d129 _ _ h131 h130 => (Ref.fin ⟨_, rfl, h131⟩)))))))))))))))))))))))))))))))))))))))))))))))))))))))))))))))))
def F__law_all_malformed (T1 : Nat → Option (List D → FO)) (T2 : Nat → Option (List D → FO)) (T3 : Nat → Option (List D → FO)) (T4 : Nat → Option (List D → FO)) (T5 : Nat → Option (List D → FO)) (a_tried : D) : Res D :=
(rL itS a_tried).bind fun l1 =>
(mapR (fun x11 =>
un2 x11 fun x14 x15 =>
(F__law_told T1 T2 T3 T4 T5 x14 x15).bind fun d18 =>
(rN fTup [(D.str "malformed"), D.non]).bind fun d20 =>
(r2 (cmp cEq) d18 d20).bind fun d21 =>
.ok d21) l1).bind fun l22 =>
(rN fAll [(D.lst l22)]).bind fun d24 =>
.ok d24
theorem L__law_all_malformed (T1 : Nat → Option (List D → FO)) (T2 : Nat → Option (List D → FO)) (T3 : Nat → Option (List D → FO)) (T4 : Nat → Option (List D → FO)) (T5 : Nat → Option (List D → FO)) (a_tried : D) : FOk (f__law_all_malformed T1 T2 T3 T4 T5 [a_tried]) (F__law_all_malformed T1 T2 T3 T4 T5 a_tried) .val := by
  have h0 : EA [.sh a_tried, .any, .any] (ev0 3 [a_tried]) := (.cons rfl (.cons trivial (.cons trivial .nil)))
  exact fn_R (r_last (r_ret (r_eN (r_cons (r_lc (r_iV (r_vs h0 rfl (r_opL rfl fun l1 => (r_map (Ai := [.sh a_tried, .any, .any]) (A2 := [.sh a_tried, .any, .any]) (h0.wipe [1, 2]) (fun x11 _ h12 => (r_g2 fun x14 x15 => (r_gNm (have h16 := set_s h12 1 x14; (r_gNm (have h17 := set_s h16 2 x15; (Ref.start (r_e2 (r_call (r_cons (r_vs h17 rfl (r_cons (r_vs h17 rfl (r_nil (r_cgo (K := .val) rfl rfl (L__law_told T1 T2 T3 T4 T5 x14 x15) fun d18 _ h19 => (r_eN (r_cons (r_c (r_cons (r_c (r_nil (r_opN sh_tup rfl fun d20 => (r_op2 sh_cmp (val_d h19) rfl fun d21 => (Ref.fin ⟨rfl, (h17.wipe [1, 2])⟩)))))))))))))))))))))))) (fun _ h13 => (EA.rest0 1 (EA.rest0 2 h13 rfl) rfl)) fun l22 _ h23 => (r_nil (r_opN sh_all rfl fun d24 => (Ref.fin ⟨_, rfl, sh_v⟩))))))))))))
def mr_16 : M Fl := ml_16
def mr_15 : M Fl := sSeq ml_15 mr_16
def mr_14 : M Fl := sSeq ml_14 mr_15
def mr_13 : M Fl := sSeq ml_13 mr_14
def mr_12 : M Fl := sSeq ml_12 mr_13
def mr_11 : M Fl := sSeq ml_11 mr_12
def mr_10 : M Fl := sSeq ml_10 mr_11
def mr_9 : M Fl := sSeq ml_9 mr_10
def mr_8 : M Fl := sSeq ml_8 mr_9
def mr_7 : M Fl := sSeq ml_7 mr_8
def mr_6 : M Fl := sSeq ml_6 mr_7
def mr_5 : M Fl := sSeq ml_5 mr_6
def mr_4 : M Fl := sSeq ml_4 mr_5
def mr_3 : M Fl := sSeq ml_3 mr_4
def mr_2 : M Fl := sSeq ml_2 mr_3
def mr_1 : M Fl := sSeq ml_1 mr_2
def mr_0 : M Fl := sSeq ml_0 mr_1
def F_law_16 (v_n : D) (v_told : D) : Res D :=
(rN fTup []).bind fun d1771 =>
(r1 fNeg (D.int 1)).bind fun d1772 =>
(rN fTup [d1771, d1772]).bind fun d1773 =>
(rN fTup [(D.gl 15), d1773]).bind fun d1774 =>
(rN fTup []).bind fun d1775 =>
(rN fTup [d1775, (D.int 257)]).bind fun d1776 =>
(rN fTup [(D.gl 15), d1776]).bind fun d1777 =>
(rN fTup []).bind fun d1778 =>
(rN fTup [d1778, (D.bl true)]).bind fun d1779 =>
(rN fTup [(D.gl 15), d1779]).bind fun d1780 =>
(rN fTup [(D.int 1)]).bind fun d1781 =>
(r2 fAdd v_n (D.int 1)).bind fun d1782 =>
(r2 fMul d1781 d1782).bind fun d1784 =>
(rN fTup [d1784, v_told, v_n]).bind fun d1785 =>
(rN fTup [(D.gl 18), d1785]).bind fun d1786 =>
(rN fTup [D.non, v_told, v_n]).bind fun d1787 =>
(rN fTup [(D.gl 18), d1787]).bind fun d1788 =>
(rN fTup []).bind fun d1789 =>
(rN fTup [d1789, D.non]).bind fun d1790 =>
(rN fTup [(D.gl 22), d1790]).bind fun d1791 =>
(rN fLst [d1774, d1777, d1780, d1786, d1788, d1791]).bind fun d1792 =>
(F__law_all_malformed tab1 tab2 tab3 tab4 tab5 d1792).bind fun d1794 =>
.ok d1794
theorem L_law_16 (v_n : D) (v_told : D) {E : Ev} (h1770 : EA [.any, .any, .sh v_n, .any, .any, .sh v_told, .any, .any, .any, .any, .any, .any, .any, .any, .any, .any, .any, .any, .any, .any, .any] E) : Ref (mr_16 E) (F_law_16 v_n v_told) (PR .val) := (r_last (r_ret (r_call (r_cons (r_eN (r_cons (r_eN (r_cons (r_c (r_cons (r_eN (r_cons (r_eN (r_nil (r_opN sh_tup rfl fun d1771 => (r_cons (r_e1 (r_c (r_op1 sh_neg rfl fun d1772 => (r_nil (r_opN sh_tup rfl fun d1773 => (r_nil (r_opN sh_tup rfl fun d1774 => (r_cons (r_eN (r_cons (r_c (r_cons (r_eN (r_cons (r_eN (r_nil (r_opN sh_tup rfl fun d1775 => (r_cons (r_c (r_nil (r_opN sh_tup rfl fun d1776 => (r_nil (r_opN sh_tup rfl fun d1777 => (r_cons (r_eN (r_cons (r_c (r_cons (r_eN (r_cons (r_eN (r_nil (r_opN sh_tup rfl fun d1778 => (r_cons (r_c (r_nil (r_opN sh_tup rfl fun d1779 => (r_nil (r_opN sh_tup rfl fun d1780 => (r_cons (r_eN (r_cons (r_c (r_cons (r_eN (r_cons (r_e2 (r_eN (r_cons (r_c (r_nil (r_opN sh_tup rfl fun d1781 => (r_e2 (r_vs h1770 rfl (r_c (r_op2f fr_add rfl rfl fun d1782 _ h1783 => (r_op2 sh_mul rfl (fr_d h1783) fun d1784 => (r_cons (r_vs h1770 rfl (r_cons (r_vs h1770 rfl (r_nil (r_opN sh_tup rfl fun d1785 => (r_nil (r_opN sh_tup rfl fun d1786 => (r_cons (r_eN (r_cons (r_c (r_cons (r_eN (r_cons (r_c (r_cons (r_vs h1770 rfl (r_cons (r_vs h1770 rfl (r_nil (r_opN sh_tup rfl fun d1787 => (r_nil (r_opN sh_tup rfl fun d1788 => (r_cons (r_eN (r_cons (r_c (r_cons (r_eN (r_cons (r_eN (r_nil (r_opN sh_tup rfl fun d1789 => (r_cons (r_c (r_nil (r_opN sh_tup rfl fun d1790 => (r_nil (r_opN sh_tup rfl fun d1791 => (r_nil (r_opNf fr_lst rfl fun d1792 _ h1793 => (r_nil (r_cgo (K := .val) (lc (fr_d h1793) rfl) rfl (L__law_all_malformed tab1 tab2 tab3 tab4 tab5 d1792) fun d1794 _ h1795 => (Ref.fin ⟨_, rfl, h1795⟩))))))))))))))))))))))))))))))))))))))))))))))))))))))))))))))))))))))))))))))))))))))))))))))))))))))))))))))))))))))
def F_law_15 (v_n : D) (v_rows : D) (v_told : D) (v_other : D) (v_row : D) (v_wide : D) : Res D :=
(rN fTupOf [v_rows]).bind fun d927 =>
(revR v_told).bind fun d929 =>
(rL itS v_told).bind fun l931 =>
(mapR (fun x934 =>
.ok x934) l931).bind fun l938 =>
(rN fTup [(D.int 1)]).bind fun d940 =>
(r2 fMul d940 v_n).bind fun d941 =>
(rN fTup [(D.int 2)]).bind fun d942 =>
(r2 fMul d942 v_n).bind fun d943 =>
(rN fTup [d941, d943]).bind fun d944 =>
(rN fTup [(D.bl true)]).bind fun d945 =>
(r2 fMul d945 v_n).bind fun d946 =>
(rN fTup [d946]).bind fun d947 =>
(rN fTup [D.non]).bind fun d948 =>
(rN fTup [(D.int 2)]).bind fun d949 =>
(rN fTup [(D.int 0)]).bind fun d950 =>
(r2 fSub v_n (D.int 1)).bind fun d951 =>
(r2 fMul d950 d951).bind fun d952 =>
(r2 fAdd d949 d952).bind fun d953 =>
(rN fTup [d953]).bind fun d955 =>
(r1 fNeg (D.int 1)).bind fun d956 =>
(rN fTup [d956]).bind fun d957 =>
(rN fTup [(D.int 0)]).bind fun d958 =>
(r2 fSub v_n (D.int 1)).bind fun d959 =>
(r2 fMul d958 d959).bind fun d960 =>
(r2 fAdd d957 d960).bind fun d961 =>
(rN fTup [d961]).bind fun d963 =>
(rN fLst [v_told, v_other, d927, v_wide, d929, (D.lst l938), D.non, (D.int 5), d944, d947, (D.str "a"), d948, d955, d963]).bind fun d964 =>
(rL itS d964).bind fun l966 =>
(forRF (σ := Unit) (ρ := D) (fun s1366 x1367 =>
(rN fIsi [x1367, (D.ty .tuple)]).bind fun d1370 =>
(andG d1370 (D.bl false) ((F__law_is_space x1367 v_n).bind fun d1373 =>
.ok d1373)).bind fun d1375 =>
(F_is_space x1367 v_n).bind fun d1379 =>
(F__law_says d1379 d1375).bind fun d1382 =>
(rTru d1382).bind fun t1384 =>
if (!t1384) = true then
.ok (.rt (D.bl false)) else
(rN fTup [v_row, x1367, v_n]).bind fun d1385 =>
(rN fTup [(D.gl 18), d1385]).bind fun d1386 =>
(rN fTup [x1367, v_told, v_n]).bind fun d1387 =>
(rN fTup [(D.gl 20), d1387]).bind fun d1388 =>
(rN fTup [v_told, x1367, v_n]).bind fun d1389 =>
(rN fTup [(D.gl 20), d1389]).bind fun d1390 =>
(rN fTup [x1367, v_n]).bind fun d1391 =>
(rN fTup [(D.gl 23), d1391]).bind fun d1392 =>
(rN fTup [x1367, v_n]).bind fun d1393 =>
(rN fTup [(D.gl 24), d1393]).bind fun d1394 =>
(rN fTup [v_told, x1367]).bind fun d1395 =>
(rN fTup [d1395, v_n]).bind fun d1396 =>
(rN fTup [(D.gl 25), d1396]).bind fun d1397 =>
(rN fLst [d1386, d1388, d1390, d1392, d1394, d1397]).bind fun d1398 =>
(rTru d1375).bind fun t1401 =>
(andB (!t1401) false ((F__law_all_malformed tab1 tab2 tab3 tab4 tab5 d1398).bind fun d1407 =>
(rTru d1407).bind fun t1409 =>
.ok (!t1409))).bind fun t1410 =>
if t1410 = true then
.ok (.rt (D.bl false)) else
(rN fTup [(D.ty .list), (D.ty .tuple)]).bind fun d1412 =>
(rN fIsiA [x1367, d1412]).bind fun d1413 =>
(andG d1413 (D.bl false) ((rL itS x1367).bind fun l1564 =>
(mapR (fun x1637 =>
(rN fIsi [x1637, (D.ty .tuple)]).bind fun d1641 =>
(andG d1641 (D.bl false) ((rN fLen [x1637]).bind fun d1675 =>
(r2 (cmp cEq) d1675 v_n).bind fun d1676 =>
(andG d1676 (D.bl false) ((rL itS x1637).bind fun l1691 =>
(mapR (fun x1696 =>
(F__law_is_whole x1696).bind fun d1700 =>
.ok d1700) l1691).bind fun l1702 =>
(rN fAll [(D.lst l1702)]).bind fun d1704 =>
.ok d1704)).bind fun d1705 =>
.ok d1705)).bind fun d1708 =>
.ok d1708) l1564).bind fun l1711 =>
(rN fAll [(D.lst l1711)]).bind fun d1713 =>
.ok d1713)).bind fun d1714 =>
(F_is_rows x1367 v_n).bind fun d1718 =>
(F__law_says d1718 d1714).bind fun d1721 =>
(rTru d1721).bind fun t1723 =>
(orB (!t1723) true ((rTru d1714).bind fun t1745 =>
(andB (!t1745) false ((rN fTup [x1367, v_n]).bind fun d1755 =>
(rN fTup [(D.gl 15), d1755]).bind fun d1756 =>
(rN fTup [x1367, v_n]).bind fun d1757 =>
(rN fTup [(D.gl 22), d1757]).bind fun d1758 =>
(rN fLst [d1756, d1758]).bind fun d1759 =>
(F__law_all_malformed tab1 tab2 tab3 tab4 tab5 d1759).bind fun d1761 =>
(rTru d1761).bind fun t1763 =>
.ok (!t1763))).bind fun t1764 =>
.ok t1764)).bind fun t1766 =>
if t1766 = true then
.ok (.rt (D.bl false)) else
.ok (.nx ())) () l966).bind fun w => fwR w (fun c => .ok c) fun s1769 =>
F_law_16 v_n v_told
theorem L_law_15 (v_n : D) (v_rows : D) (v_told : D) (v_other : D) (v_row : D) (v_wide : D) {E : Ev} (h926 : EA [.any, .any, .sh v_n, .sh v_rows, .any, .sh v_told, .sh v_other, .sh v_row, .any, .any, .any, .any, .any, .own v_wide, .any, .any, .any, .any, .any, .any, .any] E) : Ref (mr_15 E) (F_law_15 v_n v_rows v_told v_other v_row v_wide) (PR .val) := (r_for (r_iV (r_eN (r_cons (r_vs h926 rfl (r_cons (r_vs h926 rfl (r_cons (r_eN (r_cons (r_vs h926 rfl (r_nil (r_opN sh_tupOf rfl fun d927 => (r_cons (r_vo h926 rfl fun _ h928 => (r_cons (r_eRev (r_vs h928 rfl (r_rev rfl fun d929 _ h930 => (r_cons (r_lc (r_iV (r_vs h928 rfl (r_opL rfl fun l931 => (r_map (Ai := [.any, .any, .sh v_n, .sh v_rows, .any, .sh v_told, .sh v_other, .sh v_row, .any, .any, .any, .any, .any, .sh v_wide, .any, .any, .any, .any, .any, .any, .any]) (A2 := [.any, .any, .sh v_n, .sh v_rows, .any, .sh v_told, .sh v_other, .sh v_row, .any, .any, .any, .any, .any, .sh v_wide, .any, .any, .any, .any, .any, .any, .any]) (h928.wipe [18]) (fun x934 _ h935 => (r_gNm (have h937 := set_s h935 18 x934; (Ref.start (r_vs h937 rfl (Ref.fin ⟨rfl, (h937.wipe [18])⟩)))))) (fun _ h936 => (EA.rest0 18 h936 rfl)) fun l938 _ h939 => (r_cons (r_c (r_cons (r_c (r_cons (r_eN (r_cons (r_e2 (r_eN (r_cons (r_c (r_nil (r_opN sh_tup rfl fun d940 => (r_vs h939 rfl (r_op2 sh_mul rfl rfl fun d941 => (r_cons (r_e2 (r_eN (r_cons (r_c (r_nil (r_opN sh_tup rfl fun d942 => (r_vs h939 rfl (r_op2 sh_mul rfl rfl fun d943 => (r_nil (r_opN sh_tup rfl fun d944 => (r_cons (r_eN (r_cons (r_e2 (r_eN (r_cons (r_c (r_nil (r_opN sh_tup rfl fun d945 => (r_vs h939 rfl (r_op2 sh_mul rfl rfl fun d946 => (r_nil (r_opN sh_tup rfl fun d947 => (r_cons (r_c (r_cons (r_eN (r_cons (r_c (r_nil (r_opN sh_tup rfl fun d948 => (r_cons (r_eN (r_cons (r_e2 (r_eN (r_cons (r_c (r_nil (r_opN sh_tup rfl fun d949 => (r_e2 (r_eN (r_cons (r_c (r_nil (r_opN sh_tup rfl fun d950 => (r_e2 (r_vs h939 rfl (r_c (r_op2 sh_int2 rfl rfl fun d951 => (r_op2 sh_mul rfl rfl fun d952 => (r_op2f fr_add rfl rfl fun d953 _ h954 => (r_nil (r_opN sh_tup (lc (fr_d h954) rfl) fun d955 => (r_cons (r_eN (r_cons (r_e2 (r_eN (r_cons (r_e1 (r_c (r_op1 sh_neg rfl fun d956 => (r_nil (r_opN sh_tup rfl fun d957 => (r_e2 (r_eN (r_cons (r_c (r_nil (r_opN sh_tup rfl fun d958 => (r_e2 (r_vs h939 rfl (r_c (r_op2 sh_int2 rfl rfl fun d959 => (r_op2 sh_mul rfl rfl fun d960 => (r_op2f fr_add rfl rfl fun d961 _ h962 => (r_nil (r_opN sh_tup (lc (fr_d h962) rfl) fun d963 => (r_nil (r_opNf fr_lst (lc rfl (lc rfl (lc rfl (lc rfl (lc (fr_d h930) (lc rfl (lc rfl (lc rfl (lc rfl (lc rfl (lc rfl (lc rfl (lc rfl (lc rfl rfl)))))))))))))) fun d964 _ h965 => (r_opL (fr_d h965) fun l966 => (r_forF (Ai := fun (s1366 : Unit) => [.any, .any, .sh v_n, .sh v_rows, .any, .sh v_told, .sh v_other, .sh v_row, .any, .any, .any, .any, .any, .sh v_wide, .any, .any, .any, .any, .any, .any, .any]) rt_PR in_PR h939 (fun s1366 x1367 _ h1368 => (r_gNm (have h1369 := set_s h1368 14 x1367; (r_asg (r_eAnd (r_eN (r_cons (r_vs h1369 rfl (r_cons (r_c (r_nil (r_opN sh_isi rfl fun d1370 => (r_and (K := (fun (d1375 : D) => RK.val d1375)) (A2 := (fun (d1375 : D) => [.any, .any, .sh v_n, .sh v_rows, .any, .sh v_told, .sh v_other, .sh v_row, .any, .any, .any, .any, .any, .sh v_wide, .sh x1367, .any, .any, .any, .any, .any, .any])) h1369 rfl (.inl rfl) (.c .r (.c .r (.c .r (.c .r (.c .r (.c .r (.c .r (.c .r (.c .r (.c .r (.c .r (.c .r (.c .r (.c .r (.c .r (.c .r (.c .r (.c .r (.c .r (.c .r (.c .r .n))))))))))))))))))))) (Ref.start (r_call (r_cons (r_vs h1369 rfl (r_cons (r_vs h1369 rfl (r_nil (r_cgo (K := .val) rfl rfl (L__law_is_space x1367 v_n) fun d1373 _ h1374 => (Ref.fin ⟨h1374, h1369⟩))))))))) fun d1375 _ _ h1377 h1376 => (have h1378 := (set_val h1376 15 h1377); (r_sIf (r_tNot (r_tV (r_call (r_cons (r_call (r_cons (r_vs h1378 rfl (r_cons (r_vs h1378 rfl (r_nil (r_cgo (K := .val) rfl rfl (L_is_space x1367 v_n) fun d1379 _ h1380 => (r_cons (r_vv h1378 rfl fun _ h1381 => (r_nil (r_cgo (K := .val) (lc (val_d h1380) (lc rfl rfl)) rfl (L__law_says d1379 d1375) fun d1382 _ h1383 => (r_tru (val_d h1383) fun t1384 => (r_ifR (ends_PQ rt_PR.nx) (r_last (r_ret (r_c (Ref.fin ⟨_, rfl, sh_v⟩)))) (r_nx (r_asg (r_eN (r_cons (r_eN (r_cons (r_c (r_cons (r_eN (r_cons (r_vs h1381 rfl (r_cons (r_vs h1381 rfl (r_cons (r_vs h1381 rfl (r_nil (r_opN sh_tup rfl fun d1385 => (r_nil (r_opN sh_tup rfl fun d1386 => (r_cons (r_eN (r_cons (r_c (r_cons (r_eN (r_cons (r_vs h1381 rfl (r_cons (r_vs h1381 rfl (r_cons (r_vs h1381 rfl (r_nil (r_opN sh_tup rfl fun d1387 => (r_nil (r_opN sh_tup rfl fun d1388 => (r_cons (r_eN (r_cons (r_c (r_cons (r_eN (r_cons (r_vs h1381 rfl (r_cons (r_vs h1381 rfl (r_cons (r_vs h1381 rfl (r_nil (r_opN sh_tup rfl fun d1389 => (r_nil (r_opN sh_tup rfl fun d1390 => (r_cons (r_eN (r_cons (r_c (r_cons (r_eN (r_cons (r_vs h1381 rfl (r_cons (r_vs h1381 rfl (r_nil (r_opN sh_tup rfl fun d1391 => (r_nil (r_opN sh_tup rfl fun d1392 => (r_cons (r_eN (r_cons (r_c (r_cons (r_eN (r_cons (r_vs h1381 rfl (r_cons (r_vs h1381 rfl (r_nil (r_opN sh_tup rfl fun d1393 => (r_nil (r_opN sh_tup rfl fun d1394 => (r_cons (r_eN (r_cons (r_c (r_cons (r_eN (r_cons (r_eN (r_cons (r_vs h1381 rfl (r_cons (r_vs h1381 rfl (r_nil (r_opN sh_tup rfl fun d1395 => (r_cons (r_vs h1381 rfl (r_nil (r_opN sh_tup rfl fun d1396 => (r_nil (r_opN sh_tup rfl fun d1397 => (r_nil (r_opNf fr_lst rfl fun d1398 _ h1399 => (have h1400 := (set_fr h1381 16 h1399); (r_sIf (r_tAnd (r_tNot (r_tV (r_vs h1400 rfl (r_tru rfl fun t1401 => (r_andB (Kd := (fun (t1410 : Bool) => t1410)) (A2 := (fun (t1410 : Bool) => [.any, .any, .sh v_n, .sh v_rows, .any, .sh v_told, .sh v_other, .sh v_row, .any, .any, .any, .any, .any, .sh v_wide, .sh x1367, .sh d1375, .val d1398, .any, .any, .any, .any])) h1400 rfl (.c .r (.c .r (.c .r (.c .r (.c .r (.c .r (.c .r (.c .r (.c .r (.c .r (.c .r (.c .r (.c .r (.c .r (.c .r (.c .r (.c .o (.c .r (.c .r (.c .r (.c .r .n))))))))))))))))))))) (Ref.start (r_tNot (r_tV (r_call (r_cons (r_vo h1400 rfl fun _ h1406 => (r_nil (r_cgo (K := .val) rfl rfl (L__law_all_malformed tab1 tab2 tab3 tab4 tab5 d1398) fun d1407 _ h1408 => (r_tru (val_d h1408) fun t1409 => (Ref.fin ⟨rfl, (h1406.wk (.c .r (.c .r (.c .r (.c .r (.c .r (.c .r (.c .r (.c .r (.c .r (.c .r (.c .r (.c .r (.c .r (.c .r (.c .r (.c .r (.c .s (.c .r (.c .r (.c .r (.c .r .n))))))))))))))))))))))⟩)))))))))) fun t1410 _ h1411 => (r_ifR (ends_PQ rt_PR.nx) (r_last (r_ret (r_c (Ref.fin ⟨_, rfl, sh_v⟩)))) (r_nx (r_asg (r_eAnd (r_eN (r_cons (r_vs h1411 rfl (r_cons (r_eN (r_cons (r_c (r_cons (r_c (r_nil (r_opN sh_tup rfl fun d1412 => (r_nil (r_opN sh_isiA rfl fun d1413 => (r_and (K := (fun (d1714 : D) => RK.val d1714)) (A2 := (fun (d1714 : D) => [.any, .any, .sh v_n, .sh v_rows, .any, .sh v_told, .sh v_other, .sh v_row, .any, .any, .any, .any, .any, .sh v_wide, .sh x1367, .sh d1375, .val d1398, .any, .any, .any, .any])) h1411 rfl (.inl rfl) (.c .r (.c .r (.c .r (.c .r (.c .r (.c .r (.c .r (.c .r (.c .r (.c .r (.c .r (.c .r (.c .r (.c .r (.c .r (.c .r (.c .r (.c .r (.c .r (.c .r (.c .r .n))))))))))))))))))))) (Ref.start (r_eN (r_cons (r_lc (r_iV (r_vs h1411 rfl (r_opL rfl fun l1564 => (r_map (Ai := [.any, .any, .sh v_n, .sh v_rows, .any, .sh v_told, .sh v_other, .sh v_row, .any, .any, .any, .any, .any, .sh v_wide, .sh x1367, .sh d1375, .val d1398, .any, .any, .any, .any]) (A2 := [.any, .any, .sh v_n, .sh v_rows, .any, .sh v_told, .sh v_other, .sh v_row, .any, .any, .any, .any, .any, .sh v_wide, .sh x1367, .sh d1375, .val d1398, .any, .any, .any, .any]) (h1411.wipe [8]) (fun x1637 _ h1638 => (r_gNm (have h1640 := set_s h1638 8 x1637; (Ref.start (r_eAnd (r_eN (r_cons (r_vs h1640 rfl (r_cons (r_c (r_nil (r_opN sh_isi rfl fun d1641 => (r_and (K := (fun (d1708 : D) => RK.val d1708)) (A2 := (fun (d1708 : D) => [.any, .any, .sh v_n, .sh v_rows, .any, .sh v_told, .sh v_other, .sh v_row, .sh x1637, .any, .any, .any, .any, .sh v_wide, .sh x1367, .sh d1375, .val d1398, .any, .any, .any, .any])) h1640 rfl (.inl rfl) (.c .r (.c .r (.c .r (.c .r (.c .r (.c .r (.c .r (.c .r (.c .r (.c .r (.c .r (.c .r (.c .r (.c .r (.c .r (.c .r (.c .r (.c .r (.c .r (.c .r (.c .r .n))))))))))))))))))))) (Ref.start (r_eAnd (r_e2 (r_eN (r_cons (r_vs h1640 rfl (r_nil (r_opN sh_len rfl fun d1675 => (r_vs h1640 rfl (r_op2 sh_cmp rfl rfl fun d1676 => (r_and (K := (fun (d1705 : D) => RK.val d1705)) (A2 := (fun (d1705 : D) => [.any, .any, .sh v_n, .sh v_rows, .any, .sh v_told, .sh v_other, .sh v_row, .sh x1637, .any, .any, .any, .any, .sh v_wide, .sh x1367, .sh d1375, .val d1398, .any, .any, .any, .any])) h1640 rfl (.inl rfl) (.c .r (.c .r (.c .r (.c .r (.c .r (.c .r (.c .r (.c .r (.c .r (.c .r (.c .r (.c .r (.c .r (.c .r (.c .r (.c .r (.c .r (.c .r (.c .r (.c .r (.c .r .n))))))))))))))))))))) (Ref.start (r_eN (r_cons (r_lc (r_iV (r_vs h1640 rfl (r_opL rfl fun l1691 => (r_map (Ai := [.any, .any, .sh v_n, .sh v_rows, .any, .sh v_told, .sh v_other, .sh v_row, .sh x1637, .any, .any, .any, .any, .sh v_wide, .sh x1367, .sh d1375, .val d1398, .any, .any, .any, .any]) (A2 := [.any, .any, .sh v_n, .sh v_rows, .any, .sh v_told, .sh v_other, .sh v_row, .sh x1637, .any, .any, .any, .any, .sh v_wide, .sh x1367, .sh d1375, .val d1398, .any, .any, .any, .any]) (h1640.wipe [20]) (fun x1696 _ h1697 => (r_gNm (have h1699 := set_s h1697 20 x1696; (Ref.start (r_call (r_cons (r_vs h1699 rfl (r_nil (r_cgo (K := .val) rfl rfl (L__law_is_whole x1696) fun d1700 _ h1701 => (Ref.fin ⟨(val_d h1701), (h1699.wipe [20])⟩)))))))))) (fun _ h1698 => (EA.rest0 20 h1698 rfl)) fun l1702 _ h1703 => (r_nil (r_opN sh_all rfl fun d1704 => (Ref.fin ⟨sh_v, h1703⟩))))))))))) fun d1705 _ _ h1707 h1706 => (Ref.fin ⟨h1707, h1706⟩)))))))))))) fun d1708 _ _ h1710 h1709 => (Ref.fin ⟨(val_d h1710), (h1709.wipe [8])⟩)))))))))))))) (fun _ h1639 => (EA.rest0 8 h1639 rfl)) fun l1711 _ h1712 => (r_nil (r_opN sh_all rfl fun d1713 => (Ref.fin ⟨sh_v, h1712⟩))))))))))) fun d1714 _ _ h1716 h1715 => (have h1717 := (set_val h1715 17 h1716); (r_last (r_sIf (r_tOr (r_tNot (r_tV (r_call (r_cons (r_call (r_cons (r_vs h1717 rfl (r_cons (r_vs h1717 rfl (r_nil (r_cgo (K := .val) rfl rfl (L_is_rows x1367 v_n) fun d1718 _ h1719 => (r_cons (r_vv h1717 rfl fun _ h1720 => (r_nil (r_cgo (K := .val) (lc (val_d h1719) (lc rfl rfl)) rfl (L__law_says d1718 d1714) fun d1721 _ h1722 => (r_tru (val_d h1722) fun t1723 => (r_orB (Kd := (fun (t1766 : Bool) => t1766)) (A2 := (fun (t1766 : Bool) => [.any, .any, .sh v_n, .sh v_rows, .any, .sh v_told, .sh v_other, .sh v_row, .any, .any, .any, .any, .any, .sh v_wide, .sh x1367, .sh d1375, .val d1398, .sh d1714, .any, .any, .any])) h1720 rfl (.c .r (.c .r (.c .r (.c .r (.c .r (.c .r (.c .r (.c .r (.c .r (.c .r (.c .r (.c .r (.c .r (.c .r (.c .r (.c .r (.c .r (.c .r (.c .r (.c .r (.c .r .n))))))))))))))))))))) (Ref.start (r_tAnd (r_tNot (r_tV (r_vs h1720 rfl (r_tru rfl fun t1745 => (r_andB (Kd := (fun (t1764 : Bool) => t1764)) (A2 := (fun (t1764 : Bool) => [.any, .any, .sh v_n, .sh v_rows, .any, .sh v_told, .sh v_other, .sh v_row, .any, .any, .any, .any, .any, .sh v_wide, .sh x1367, .sh d1375, .val d1398, .sh d1714, .any, .any, .any])) h1720 rfl (.c .r (.c .r (.c .r (.c .r (.c .r (.c .r (.c .r (.c .r (.c .r (.c .r (.c .r (.c .r (.c .r (.c .r (.c .r (.c .r (.c .r (.c .r (.c .r (.c .r (.c .r .n))))))))))))))))))))) (Ref.start (r_tNot (r_tV (r_call (r_cons (r_eN (r_cons (r_eN (r_cons (r_c (r_cons (r_eN (r_cons (r_vs h1720 rfl (r_cons (r_vs h1720 rfl (r_nil (r_opN sh_tup rfl fun d1755 => (r_nil (r_opN sh_tup rfl fun d1756 => (r_cons (r_eN (r_cons (r_c (r_cons (r_eN (r_cons (r_vs h1720 rfl (r_cons (r_vs h1720 rfl (r_nil (r_opN sh_tup rfl fun d1757 => (r_nil (r_opN sh_tup rfl fun d1758 => (r_nil (r_opNf fr_lst rfl fun d1759 _ h1760 => (r_nil (r_cgo (K := .val) (lc (fr_d h1760) rfl) rfl (L__law_all_malformed tab1 tab2 tab3 tab4 tab5 d1759) fun d1761 _ h1762 => (r_tru (val_d h1762) fun t1763 => (Ref.fin ⟨rfl, h1720⟩)))))))))))))))))))))))))))))))))))))))) fun t1764 _ h1765 => (Ref.fin ⟨rfl, h1765⟩)))))))) fun t1766 _ h1767 => (r_ifR (ends_PQ rt_PR.nx) (r_last (r_ret (r_c (Ref.fin ⟨_, rfl, sh_v⟩)))) (r_nx (Ref.fin ⟨.inl rfl, (h1767.wk (.c .r (.c .r (.c .r (.c .r (.c .r (.c .r (.c .r (.c .r (.c .r (.c .r (.c .r (.c .r (.c .r (.c .r (.c .a (.c .a (.c .a (.c .a (.c .r (.c .r (.c .r .n))))))))))))))))))))))⟩))))))))))))))))))))))))))))))))))))))))))))))))))))))))))))))))))))))))))))))))))))))))))))))))))))))))))))))))))))))))))))))))))))))))))))))))))))))))))))))))))))))))))))))))))))))) fun s1769 _ h1768 => (L_law_16 v_n v_told (h1768.wk (.c .r (.c .r (.c .r (.c .a (.c .r (.c .r (.c .a (.c .a (.c .r (.c .r (.c .r (.c .r (.c .r (.c .a (.c .r (.c .r (.c .r (.c .r (.c .r (.c .r (.c .r .n)))))))))))))))))))))))))))))))))))))))))))))))))))))))))))))))))))))))))))))))))))))))))))))))))))))))))))))))))))))))))))))))))))))))))))))))))))
def F_law_14 (v_n : D) (v_rows : D) (v_told : D) (v_other : D) (v_row : D) : Res D :=
(rN fTup [(D.int 0)]).bind fun d920 =>
(r2 fMul d920 v_n).bind fun d921 =>
(rN fTup [d921]).bind fun d922 =>
(r2 fAdd v_told d922).bind fun d923 =>
F_law_15 v_n v_rows v_told v_other v_row d923
theorem L_law_14 (v_n : D) (v_rows : D) (v_told : D) (v_other : D) (v_row : D) {E : Ev} (h919 : EA [.any, .any, .sh v_n, .sh v_rows, .any, .sh v_told, .sh v_other, .sh v_row, .any, .any, .any, .any, .any, .any, .any, .any, .any, .any, .any, .any, .any] E) : Ref (mr_14 E) (F_law_14 v_n v_rows v_told v_other v_row) (PR .val) := (r_asg (r_e2 (r_vs h919 rfl (r_eN (r_cons (r_e2 (r_eN (r_cons (r_c (r_nil (r_opN sh_tup rfl fun d920 => (r_vs h919 rfl (r_op2 sh_mul rfl rfl fun d921 => (r_nil (r_opN sh_tup rfl fun d922 => (r_op2f fr_add rfl rfl fun d923 _ h924 => (have h925 := (set_fr h919 13 h924); (L_law_15 v_n v_rows v_told v_other v_row d923 h925))))))))))))))))))
def F_law_13 (v_n : D) (v_rows : D) (v_told : D) (v_other : D) (v_row : D) : Res D :=
(rN fTup [v_told, v_other]).bind fun d882 =>
(F_is_direct d882 v_n).bind fun d883 =>
(rN fLstOf [v_told]).bind fun d885 =>
(rN fLstOf [v_other]).bind fun d887 =>
(r2 fAdd d885 d887).bind fun d889 =>
(F__law_rank d889 v_n).bind fun d891 =>
(rN fLen [v_told]).bind fun d893 =>
(rN fLen [v_other]).bind fun d894 =>
(r2 fAdd d893 d894).bind fun d895 =>
(r2 (cmp cEq) d891 d895).bind fun d897 =>
(F__law_says d883 d897).bind fun d898 =>
(rTru d898).bind fun t900 =>
(orB (!t900) true ((F_beside v_told v_n).bind fun d909 =>
(rN fTup [v_told, d909]).bind fun d911 =>
(F_is_direct d911 v_n).bind fun d912 =>
(F__law_says d912 (D.bl true)).bind fun d914 =>
(rTru d914).bind fun t916 =>
.ok (!t916))).bind fun t917 =>
if t917 = true then
.ok (D.bl false) else
F_law_14 v_n v_rows v_told v_other v_row
theorem L_law_13 (v_n : D) (v_rows : D) (v_told : D) (v_other : D) (v_row : D) {E : Ev} (h881 : EA [.any, .any, .sh v_n, .sh v_rows, .any, .sh v_told, .sh v_other, .sh v_row, .any, .any, .any, .any, .any, .any, .any, .any, .any, .any, .any, .any, .any] E) : Ref (mr_13 E) (F_law_13 v_n v_rows v_told v_other v_row) (PR .val) := (r_sIf (r_tOr (r_tNot (r_tV (r_call (r_cons (r_call (r_cons (r_eN (r_cons (r_vs h881 rfl (r_cons (r_vs h881 rfl (r_nil (r_opN sh_tup rfl fun d882 => (r_cons (r_vs h881 rfl (r_nil (r_cgo (K := .val) rfl rfl (L_is_direct d882 v_n) fun d883 _ h884 => (r_cons (r_e2 (r_call (r_cons (r_e2 (r_eN (r_cons (r_vs h881 rfl (r_nil (r_opNf fr_lstOf rfl fun d885 _ h886 => (r_eN (r_cons (r_vs h881 rfl (r_nil (r_opNf fr_lstOf rfl fun d887 _ h888 => (r_op2f fr_add (fr_d h886) (fr_d h888) fun d889 _ h890 => (r_cons (r_vs h881 rfl (r_nil (r_cgo (K := .val) (lc (fr_d h890) (lc rfl rfl)) rfl (L__law_rank d889 v_n) fun d891 _ h892 => (r_e2 (r_eN (r_cons (r_vs h881 rfl (r_nil (r_opN sh_len rfl fun d893 => (r_eN (r_cons (r_vs h881 rfl (r_nil (r_opN sh_len rfl fun d894 => (r_op2f fr_add rfl rfl fun d895 _ h896 => (r_op2 sh_cmp (val_d h892) (fr_d h896) fun d897 => (r_nil (r_cgo (K := .val) (lc (val_d h884) (lc rfl rfl)) rfl (L__law_says d883 d897) fun d898 _ h899 => (r_tru (val_d h899) fun t900 => (r_orB (Kd := (fun (t917 : Bool) => t917)) (A2 := (fun (t917 : Bool) => [.any, .any, .sh v_n, .sh v_rows, .any, .sh v_told, .sh v_other, .sh v_row, .any, .any, .any, .any, .any, .any, .any, .any, .any, .any, .any, .any, .any])) h881 rfl (.c .r (.c .r (.c .r (.c .r (.c .r (.c .r (.c .r (.c .r (.c .r (.c .r (.c .r (.c .r (.c .r (.c .r (.c .r (.c .r (.c .r (.c .r (.c .r (.c .r (.c .r .n))))))))))))))))))))) (Ref.start (r_tNot (r_tV (r_call (r_cons (r_call (r_cons (r_eN (r_cons (r_vs h881 rfl (r_cons (r_call (r_cons (r_vs h881 rfl (r_cons (r_vs h881 rfl (r_nil (r_cgo (K := .val) rfl rfl (L_beside v_told v_n) fun d909 _ h910 => (r_nil (r_opN sh_tup (lc rfl (lc (val_d h910) rfl)) fun d911 => (r_cons (r_vs h881 rfl (r_nil (r_cgo (K := .val) rfl rfl (L_is_direct d911 v_n) fun d912 _ h913 => (r_cons (r_c (r_nil (r_cgo (K := .val) (lc (val_d h913) (lc rfl rfl)) rfl (L__law_says d912 (D.bl true)) fun d914 _ h915 => (r_tru (val_d h915) fun t916 => (Ref.fin ⟨rfl, h881⟩)))))))))))))))))))))))))))))) fun t917 _ h918 => (r_ifR ends_PR (r_last (r_ret (r_c (Ref.fin ⟨_, rfl, sh_v⟩)))) (r_nx (L_law_14 v_n v_rows v_told v_other v_row h918)))))))))))))))))))))))))))))))))))))))))))))))))))))))))))
def F_law_12 (v_n : D) (v_rows : D) (v_told : D) (v_other : D) (v_row : D) (v_free : D) : Res D :=
(F_free_places v_told v_n).bind fun d801 =>
(F__law_same 11 d801 v_free).bind fun d804 =>
(rTru d804).bind fun t806 =>
(orB (!t806) true ((F_beside v_told v_n).bind fun d843 =>
(rL itS v_free).bind fun l845 =>
(mapR (fun x851 =>
(F__law_unit v_n).bind fun d855 =>
(r2 fIx d855 x851).bind fun d857 =>
.ok d857) l845).bind fun l858 =>
(F__law_same 11 d843 (D.lst l858)).bind fun d860 =>
(rTru d860).bind fun t862 =>
(orB (!t862) true ((F_whole_space v_n).bind fun d870 =>
(F__law_unit v_n).bind fun d872 =>
(F__law_same 11 d870 d872).bind fun d874 =>
(rTru d874).bind fun t876 =>
.ok (!t876))).bind fun t877 =>
.ok t877)).bind fun t879 =>
if t879 = true then
.ok (D.bl false) else
F_law_13 v_n v_rows v_told v_other v_row
theorem L_law_12 (v_n : D) (v_rows : D) (v_told : D) (v_other : D) (v_row : D) (v_free : D) {E : Ev} (h800 : EA [.any, .any, .sh v_n, .sh v_rows, .any, .sh v_told, .sh v_other, .sh v_row, .any, .any, .any, .any, .own v_free, .any, .any, .any, .any, .any, .any, .any, .any] E) : Ref (mr_12 E) (F_law_12 v_n v_rows v_told v_other v_row v_free) (PR .val) := (r_sIf (r_tOr (r_tNot (r_tV (r_call (r_cons (r_call (r_cons (r_vs h800 rfl (r_cons (r_vs h800 rfl (r_nil (r_cgo (K := .val) rfl rfl (L_free_places v_told v_n) fun d801 _ h802 => (r_cons (r_vo h800 rfl fun _ h803 => (r_nil (r_cgo (K := .val) (lc (val_d h802) (lc rfl rfl)) rfl (L__law_same 11 d801 v_free) fun d804 _ h805 => (r_tru (val_d h805) fun t806 => (r_orB (Kd := (fun (t879 : Bool) => t879)) (A2 := (fun (t879 : Bool) => [.any, .any, .sh v_n, .sh v_rows, .any, .sh v_told, .sh v_other, .sh v_row, .any, .any, .any, .any, .sh v_free, .any, .any, .any, .any, .any, .any, .any, .any])) h803 rfl (.c .r (.c .r (.c .r (.c .r (.c .r (.c .r (.c .r (.c .r (.c .r (.c .r (.c .r (.c .r (.c .r (.c .r (.c .r (.c .r (.c .r (.c .r (.c .r (.c .r (.c .r .n))))))))))))))))))))) (Ref.start (r_tOr (r_tNot (r_tV (r_call (r_cons (r_call (r_cons (r_vs h803 rfl (r_cons (r_vs h803 rfl (r_nil (r_cgo (K := .val) rfl rfl (L_beside v_told v_n) fun d843 _ h844 => (r_cons (r_lc (r_iV (r_vs h803 rfl (r_opL rfl fun l845 => (r_map (Ai := [.any, .any, .sh v_n, .sh v_rows, .any, .sh v_told, .sh v_other, .sh v_row, .any, .any, .any, .any, .sh v_free, .any, .any, .any, .any, .any, .any, .any, .any]) (A2 := [.any, .any, .sh v_n, .sh v_rows, .any, .sh v_told, .sh v_other, .sh v_row, .any, .any, .any, .any, .sh v_free, .any, .any, .any, .any, .any, .any, .any, .any]) (h803.wipe [19]) (fun x851 _ h852 => (r_gNm (have h854 := set_s h852 19 x851; (Ref.start (r_e2 (r_call (r_cons (r_vs h854 rfl (r_nil (r_cgo (K := .val) rfl rfl (L__law_unit v_n) fun d855 _ h856 => (r_vs h854 rfl (r_op2 sh_ix (val_d h856) rfl fun d857 => (Ref.fin ⟨rfl, (h854.wipe [19])⟩))))))))))))) (fun _ h853 => (EA.rest0 19 h853 rfl)) fun l858 _ h859 => (r_nil (r_cgo (K := .val) (lc (val_d h844) (lc rfl rfl)) rfl (L__law_same 11 d843 (D.lst l858)) fun d860 _ h861 => (r_tru (val_d h861) fun t862 => (r_orB (Kd := (fun (t877 : Bool) => t877)) (A2 := (fun (t877 : Bool) => [.any, .any, .sh v_n, .sh v_rows, .any, .sh v_told, .sh v_other, .sh v_row, .any, .any, .any, .any, .sh v_free, .any, .any, .any, .any, .any, .any, .any, .any])) h859 rfl (.c .r (.c .r (.c .r (.c .r (.c .r (.c .r (.c .r (.c .r (.c .r (.c .r (.c .r (.c .r (.c .r (.c .r (.c .r (.c .r (.c .r (.c .r (.c .r (.c .r (.c .r .n))))))))))))))))))))) (Ref.start (r_tNot (r_tV (r_call (r_cons (r_call (r_cons (r_vs h859 rfl (r_nil (r_cgo (K := .val) rfl rfl (L_whole_space v_n) fun d870 _ h871 => (r_cons (r_call (r_cons (r_vs h859 rfl (r_nil (r_cgo (K := .val) rfl rfl (L__law_unit v_n) fun d872 _ h873 => (r_nil (r_cgo (K := .val) (lc (val_d h871) (lc (val_d h873) rfl)) rfl (L__law_same 11 d870 d872) fun d874 _ h875 => (r_tru (val_d h875) fun t876 => (Ref.fin ⟨rfl, h859⟩)))))))))))))))))))) fun t877 _ h878 => (Ref.fin ⟨rfl, h878⟩)))))))))))))))))))))))) fun t879 _ h880 => (r_ifR ends_PR (r_last (r_ret (r_c (Ref.fin ⟨_, rfl, sh_v⟩)))) (r_nx (L_law_13 v_n v_rows v_told v_other v_row (h880.wk (.c .r (.c .r (.c .r (.c .r (.c .r (.c .r (.c .r (.c .r (.c .r (.c .r (.c .r (.c .r (.c .a (.c .r (.c .r (.c .r (.c .r (.c .r (.c .r (.c .r (.c .r .n))))))))))))))))))))))))))))))))))))))))))))
def F_law_11 (v_n : D) (v_rows : D) (v_told : D) (v_other : D) (v_row : D) (v_leads : D) : Res D :=
(rLN rg1 [v_n]).bind fun l783 =>
(compR (fun x791 =>
(rc2 cNotIn x791 v_leads).bind fun t796 =>
if t796 = true then
.ok (some x791) else .ok none) l783).bind fun l797 =>
F_law_12 v_n v_rows v_told v_other v_row (D.lst l797)
theorem L_law_11 (v_n : D) (v_rows : D) (v_told : D) (v_other : D) (v_row : D) (v_leads : D) {E : Ev} (h782 : EA [.any, .any, .sh v_n, .sh v_rows, .any, .sh v_told, .sh v_other, .sh v_row, .any, .any, .any, .own v_leads, .any, .any, .any, .any, .any, .any, .any, .any, .any] E) : Ref (mr_11 E) (F_law_11 v_n v_rows v_told v_other v_row v_leads) (PR .val) := (r_asg (r_lc (r_iN (r_cons (r_vs h782 rfl (r_nil (r_opLN rfl fun l783 => (r_comp (Ai := [.any, .any, .sh v_n, .sh v_rows, .any, .sh v_told, .sh v_other, .sh v_row, .any, .any, .any, .val v_leads, .any, .any, .any, .any, .any, .any, .any, .any, .any]) (A2 := [.any, .any, .sh v_n, .sh v_rows, .any, .sh v_told, .sh v_other, .sh v_row, .any, .any, .any, .val v_leads, .any, .any, .any, .any, .any, .any, .any, .any, .any]) ((h782.wipe [19]).wk (.c .r (.c .r (.c .r (.c .r (.c .r (.c .r (.c .r (.c .r (.c .r (.c .r (.c .r (.c .o (.c .r (.c .r (.c .r (.c .r (.c .r (.c .r (.c .r (.c .r (.c .r .n)))))))))))))))))))))) (fun x791 _ h792 => (r_gNm (have h794 := set_s h792 19 x791; (r_t2 (r_vs h794 rfl (r_vv h794 rfl fun _ h795 => (r_opB rfl rfl fun t796 => (r_tif (r_vs h795 rfl (Ref.fin ⟨congrArg some rfl, ((h795.wipe [19]).wk (.c .r (.c .r (.c .r (.c .r (.c .r (.c .r (.c .r (.c .r (.c .r (.c .r (.c .r (.c .s (.c .r (.c .r (.c .r (.c .r (.c .r (.c .r (.c .r (.c .r (.c .r .n))))))))))))))))))))))⟩)) (Ref.fin ⟨rfl, ((h795.wipe [19]).wk (.c .r (.c .r (.c .r (.c .r (.c .r (.c .r (.c .r (.c .r (.c .r (.c .r (.c .r (.c .s (.c .r (.c .r (.c .r (.c .r (.c .r (.c .r (.c .r (.c .r (.c .r .n))))))))))))))))))))))⟩))))))))) (fun _ h793 => (EA.rest0 19 h793 rfl)) fun l797 _ h798 => (have h799 := (set_frl h798 12); (L_law_12 v_n v_rows v_told v_other v_row (D.lst l797) (h799.wk (.c .r (.c .r (.c .r (.c .r (.c .r (.c .r (.c .r (.c .r (.c .r (.c .r (.c .r (.c .a (.c .r (.c .r (.c .r (.c .r (.c .r (.c .r (.c .r (.c .r (.c .r .n))))))))))))))))))))))))))))))))
def F_law_10 (v_n : D) (v_rows : D) (v_told : D) (v_other : D) (v_row : D) : Res D :=
(rL itS v_told).bind fun l768 =>
(mapR (fun x773 =>
(F__law_lead x773).bind fun d777 =>
.ok d777) l768).bind fun l779 =>
F_law_11 v_n v_rows v_told v_other v_row (D.lst l779)
theorem L_law_10 (v_n : D) (v_rows : D) (v_told : D) (v_other : D) (v_row : D) {E : Ev} (h767 : EA [.any, .any, .sh v_n, .sh v_rows, .any, .sh v_told, .sh v_other, .sh v_row, .any, .any, .any, .any, .any, .any, .any, .any, .any, .any, .any, .any, .any] E) : Ref (mr_10 E) (F_law_10 v_n v_rows v_told v_other v_row) (PR .val) := (r_asg (r_lc (r_iV (r_vs h767 rfl (r_opL rfl fun l768 => (r_map (Ai := [.any, .any, .sh v_n, .sh v_rows, .any, .sh v_told, .sh v_other, .sh v_row, .any, .any, .any, .any, .any, .any, .any, .any, .any, .any, .any, .any, .any]) (A2 := [.any, .any, .sh v_n, .sh v_rows, .any, .sh v_told, .sh v_other, .sh v_row, .any, .any, .any, .any, .any, .any, .any, .any, .any, .any, .any, .any, .any]) (h767.wipe [18]) (fun x773 _ h774 => (r_gNm (have h776 := set_s h774 18 x773; (Ref.start (r_call (r_cons (r_vs h776 rfl (r_nil (r_cgo (K := .val) rfl rfl (L__law_lead x773) fun d777 _ h778 => (Ref.fin ⟨(val_d h778), (h776.wipe [18])⟩)))))))))) (fun _ h775 => (EA.rest0 18 h775 rfl)) fun l779 _ h780 => (have h781 := (set_frl h780 11); (L_law_11 v_n v_rows v_told v_other v_row (D.lst l779) h781))))))))
def F_law_9 (v_n : D) (v_rows : D) (v_others : D) (v_told : D) (v_other : D) (v_row : D) : Res D :=
(F_is_part v_told v_other v_n).bind fun d732 =>
(rL itS v_told).bind fun l734 =>
(mapR (fun x739 =>
(F__law_within x739 v_others v_n).bind fun d743 =>
.ok d743) l734).bind fun l745 =>
(rN fAll [(D.lst l745)]).bind fun d747 =>
(F__law_says d732 d747).bind fun d748 =>
(rTru d748).bind fun t750 =>
(orB (!t750) true ((F_whole_space v_n).bind fun d758 =>
(F_is_part v_told d758 v_n).bind fun d760 =>
(F__law_says d760 (D.bl true)).bind fun d762 =>
(rTru d762).bind fun t764 =>
.ok (!t764))).bind fun t765 =>
if t765 = true then
.ok (D.bl false) else
F_law_10 v_n v_rows v_told v_other v_row
theorem L_law_9 (v_n : D) (v_rows : D) (v_others : D) (v_told : D) (v_other : D) (v_row : D) {E : Ev} (h730 : EA [.any, .any, .sh v_n, .sh v_rows, .sh v_others, .sh v_told, .val v_other, .sh v_row, .any, .any, .any, .any, .any, .any, .any, .any, .any, .any, .any, .any, .any] E) : Ref (mr_9 E) (F_law_9 v_n v_rows v_others v_told v_other v_row) (PR .val) := (r_sIf (r_tOr (r_tNot (r_tV (r_call (r_cons (r_call (r_cons (r_vs h730 rfl (r_cons (r_vv h730 rfl fun _ h731 => (r_cons (r_vs h731 rfl (r_nil (r_cgo (K := .val) rfl rfl (L_is_part v_told v_other v_n) fun d732 _ h733 => (r_cons (r_eN (r_cons (r_lc (r_iV (r_vs h731 rfl (r_opL rfl fun l734 => (r_map (Ai := [.any, .any, .sh v_n, .sh v_rows, .sh v_others, .sh v_told, .sh v_other, .sh v_row, .any, .any, .any, .any, .any, .any, .any, .any, .any, .any, .any, .any, .any]) (A2 := [.any, .any, .sh v_n, .sh v_rows, .sh v_others, .sh v_told, .sh v_other, .sh v_row, .any, .any, .any, .any, .any, .any, .any, .any, .any, .any, .any, .any, .any]) (h731.wipe [8]) (fun x739 _ h740 => (r_gNm (have h742 := set_s h740 8 x739; (Ref.start (r_call (r_cons (r_vs h742 rfl (r_cons (r_vs h742 rfl (r_cons (r_vs h742 rfl (r_nil (r_cgo (K := .val) rfl rfl (L__law_within x739 v_others v_n) fun d743 _ h744 => (Ref.fin ⟨(val_d h744), (h742.wipe [8])⟩)))))))))))))) (fun _ h741 => (EA.rest0 8 h741 rfl)) fun l745 _ h746 => (r_nil (r_opN sh_all rfl fun d747 => (r_nil (r_cgo (K := .val) (lc (val_d h733) (lc rfl rfl)) rfl (L__law_says d732 d747) fun d748 _ h749 => (r_tru (val_d h749) fun t750 => (r_orB (Kd := (fun (t765 : Bool) => t765)) (A2 := (fun (t765 : Bool) => [.any, .any, .sh v_n, .sh v_rows, .sh v_others, .sh v_told, .sh v_other, .sh v_row, .any, .any, .any, .any, .any, .any, .any, .any, .any, .any, .any, .any, .any])) h746 rfl (.c .r (.c .r (.c .r (.c .r (.c .r (.c .r (.c .r (.c .r (.c .r (.c .r (.c .r (.c .r (.c .r (.c .r (.c .r (.c .r (.c .r (.c .r (.c .r (.c .r (.c .r .n))))))))))))))))))))) (Ref.start (r_tNot (r_tV (r_call (r_cons (r_call (r_cons (r_vs h746 rfl (r_cons (r_call (r_cons (r_vs h746 rfl (r_nil (r_cgo (K := .val) rfl rfl (L_whole_space v_n) fun d758 _ h759 => (r_cons (r_vs h746 rfl (r_nil (r_cgo (K := .val) (lc rfl (lc (val_d h759) (lc rfl rfl))) rfl (L_is_part v_told d758 v_n) fun d760 _ h761 => (r_cons (r_c (r_nil (r_cgo (K := .val) (lc (val_d h761) (lc rfl rfl)) rfl (L__law_says d760 (D.bl true)) fun d762 _ h763 => (r_tru (val_d h763) fun t764 => (Ref.fin ⟨rfl, h746⟩)))))))))))))))))))))))) fun t765 _ h766 => (r_ifR ends_PR (r_last (r_ret (r_c (Ref.fin ⟨_, rfl, sh_v⟩)))) (r_nx (L_law_10 v_n v_rows v_told v_other v_row (h766.wk (.c .r (.c .r (.c .r (.c .r (.c .a (.c .r (.c .r (.c .r (.c .r (.c .r (.c .r (.c .r (.c .r (.c .r (.c .r (.c .r (.c .r (.c .r (.c .r (.c .r (.c .r .n))))))))))))))))))))))))))))))))))))))))))))))))))))))
def F_law_8 (v_n : D) (v_rows : D) (v_others : D) (v_told : D) (v_other : D) (v_row : D) : Res D :=
(rN fLst [v_row]).bind fun d294 =>
(r2 fAdd d294 v_rows).bind fun d296 =>
(rL itS d296).bind fun l298 =>
(forRF (σ := Unit) (ρ := D) (fun s512 x513 =>
(F__law_within x513 v_rows v_n).bind fun d516 =>
(F_is_within x513 v_told v_n).bind fun d519 =>
(F__law_says d519 d516).bind fun d522 =>
(rTru d522).bind fun t524 =>
(orB (!t524) true ((F_slim x513).bind fun d548 =>
(F__law_slim x513).bind fun d550 =>
(F__law_same 11 d548 d550).bind fun d552 =>
(rTru d552).bind fun t554 =>
(orB (!t554) true ((F_lead_of x513).bind fun d562 =>
(F__law_lead x513).bind fun d564 =>
(F__law_same 11 d562 d564).bind fun d566 =>
(rTru d566).bind fun t568 =>
.ok (!t568))).bind fun t569 =>
.ok t569)).bind fun t571 =>
if t571 = true then
.ok (.rt (D.bl false)) else
(F_rest_of x513 v_told).bind fun d573 =>
(rN fIsi [d573, (D.ty .tuple)]).bind fun d577 =>
(rTru d577).bind fun t578 =>
(orB (!t578) true ((rN fLen [d573]).bind fun d641 =>
(rc2 cNe d641 v_n).bind fun t642 =>
(orB t642 true ((rL itS v_told).bind fun l672 =>
(mapR (fun x679 =>
(F__law_lead x679).bind fun d683 =>
(r2 fIx d573 d683).bind fun d685 =>
(r2 (cmp cEq) d685 (D.int 0)).bind fun d686 =>
.ok d686) l672).bind fun l687 =>
(rN fAll [(D.lst l687)]).bind fun d689 =>
(rTru d689).bind fun t690 =>
(orB (!t690) true ((rN fTup [(D.int 0)]).bind fun d695 =>
(r2 fMul d695 v_n).bind fun d696 =>
(r2 (cmp cEq) d573 d696).bind fun d697 =>
(rc2 cNe d697 d516).bind fun t698 =>
.ok t698)).bind fun t699 =>
.ok t699)).bind fun t701 =>
.ok t701)).bind fun t703 =>
if t703 = true then
.ok (.rt (D.bl false)) else
(rN fLst [x513]).bind fun d705 =>
(r2 fAdd v_rows d705).bind fun d707 =>
(F__law_within d573 d707 v_n).bind fun d709 =>
(rTru d709).bind fun t711 =>
(orB (!t711) true ((rN fLst [d573]).bind fun d719 =>
(r2 fAdd v_rows d719).bind fun d721 =>
(F__law_within x513 d721 v_n).bind fun d723 =>
(rTru d723).bind fun t725 =>
.ok (!t725))).bind fun t726 =>
if t726 = true then
.ok (.rt (D.bl false)) else
.ok (.nx ())) () l298).bind fun w => fwR w (fun c => .ok c) fun s729 =>
F_law_9 v_n v_rows v_others v_told v_other v_row
theorem L_law_8 (v_n : D) (v_rows : D) (v_others : D) (v_told : D) (v_other : D) (v_row : D) {E : Ev} (h292 : EA [.any, .any, .sh v_n, .sh v_rows, .sh v_others, .sh v_told, .val v_other, .val v_row, .any, .any, .any, .any, .any, .any, .any, .any, .any, .any, .any, .any, .any] E) : Ref (mr_8 E) (F_law_8 v_n v_rows v_others v_told v_other v_row) (PR .val) := (r_for (r_iV (r_e2 (r_eN (r_cons (r_vv h292 rfl fun _ h293 => (r_nil (r_opNf fr_lst rfl fun d294 _ h295 => (r_vs h293 rfl (r_op2f fr_add (fr_d h295) rfl fun d296 _ h297 => (r_opL (fr_d h297) fun l298 => (r_forF (Ai := fun (s512 : Unit) => [.any, .any, .sh v_n, .sh v_rows, .sh v_others, .sh v_told, .val v_other, .sh v_row, .any, .any, .any, .any, .any, .any, .any, .any, .any, .any, .any, .any, .any]) rt_PR in_PR h293 (fun s512 x513 _ h514 => (r_gNm (have h515 := set_s h514 8 x513; (r_asg (r_call (r_cons (r_vs h515 rfl (r_cons (r_vs h515 rfl (r_cons (r_vs h515 rfl (r_nil (r_cgo (K := .val) rfl rfl (L__law_within x513 v_rows v_n) fun d516 _ h517 => (have h518 := (set_val h515 9 h517); (r_sIf (r_tOr (r_tNot (r_tV (r_call (r_cons (r_call (r_cons (r_vs h518 rfl (r_cons (r_vs h518 rfl (r_cons (r_vs h518 rfl (r_nil (r_cgo (K := .val) rfl rfl (L_is_within x513 v_told v_n) fun d519 _ h520 => (r_cons (r_vv h518 rfl fun _ h521 => (r_nil (r_cgo (K := .val) (lc (val_d h520) (lc rfl rfl)) rfl (L__law_says d519 d516) fun d522 _ h523 => (r_tru (val_d h523) fun t524 => (r_orB (Kd := (fun (t571 : Bool) => t571)) (A2 := (fun (t571 : Bool) => [.any, .any, .sh v_n, .sh v_rows, .sh v_others, .sh v_told, .val v_other, .sh v_row, .sh x513, .sh d516, .any, .any, .any, .any, .any, .any, .any, .any, .any, .any, .any])) h521 rfl (.c .r (.c .r (.c .r (.c .r (.c .r (.c .r (.c .r (.c .r (.c .r (.c .r (.c .r (.c .r (.c .r (.c .r (.c .r (.c .r (.c .r (.c .r (.c .r (.c .r (.c .r .n))))))))))))))))))))) (Ref.start (r_tOr (r_tNot (r_tV (r_call (r_cons (r_call (r_cons (r_vs h521 rfl (r_nil (r_cgo (K := .val) rfl rfl (L_slim x513) fun d548 _ h549 => (r_cons (r_call (r_cons (r_vs h521 rfl (r_nil (r_cgo (K := .val) rfl rfl (L__law_slim x513) fun d550 _ h551 => (r_nil (r_cgo (K := .val) (lc (val_d h549) (lc (val_d h551) rfl)) rfl (L__law_same 11 d548 d550) fun d552 _ h553 => (r_tru (val_d h553) fun t554 => (r_orB (Kd := (fun (t569 : Bool) => t569)) (A2 := (fun (t569 : Bool) => [.any, .any, .sh v_n, .sh v_rows, .sh v_others, .sh v_told, .val v_other, .sh v_row, .sh x513, .sh d516, .any, .any, .any, .any, .any, .any, .any, .any, .any, .any, .any])) h521 rfl (.c .r (.c .r (.c .r (.c .r (.c .r (.c .r (.c .r (.c .r (.c .r (.c .r (.c .r (.c .r (.c .r (.c .r (.c .r (.c .r (.c .r (.c .r (.c .r (.c .r (.c .r .n))))))))))))))))))))) (Ref.start (r_tNot (r_tV (r_call (r_cons (r_call (r_cons (r_vs h521 rfl (r_nil (r_cgo (K := .val) rfl rfl (L_lead_of x513) fun d562 _ h563 => (r_cons (r_call (r_cons (r_vs h521 rfl (r_nil (r_cgo (K := .val) rfl rfl (L__law_lead x513) fun d564 _ h565 => (r_nil (r_cgo (K := .val) (lc (val_d h563) (lc (val_d h565) rfl)) rfl (L__law_same 11 d562 d564) fun d566 _ h567 => (r_tru (val_d h567) fun t568 => (Ref.fin ⟨rfl, h521⟩)))))))))))))))))))) fun t569 _ h570 => (Ref.fin ⟨rfl, h570⟩)))))))))))))))))))))) fun t571 _ h572 => (r_ifR (ends_PQ rt_PR.nx) (r_last (r_ret (r_c (Ref.fin ⟨_, rfl, sh_v⟩)))) (r_nx (r_asg (r_call (r_cons (r_vs h572 rfl (r_cons (r_vs h572 rfl (r_nil (r_cgo (K := .val) rfl rfl (L_rest_of x513 v_told) fun d573 _ h574 => (have h575 := (set_val h572 10 h574); (r_sIf (r_tOr (r_tNot (r_tV (r_eN (r_cons (r_vv h575 rfl fun _ h576 => (r_cons (r_c (r_nil (r_opN sh_isi rfl fun d577 => (r_tru rfl fun t578 => (r_orB (Kd := (fun (t703 : Bool) => t703)) (A2 := (fun (t703 : Bool) => [.any, .any, .sh v_n, .sh v_rows, .sh v_others, .sh v_told, .val v_other, .sh v_row, .sh x513, .sh d516, .sh d573, .any, .any, .any, .any, .any, .any, .any, .any, .any, .any])) h576 rfl (.c .r (.c .r (.c .r (.c .r (.c .r (.c .r (.c .r (.c .r (.c .r (.c .r (.c .r (.c .r (.c .r (.c .r (.c .r (.c .r (.c .r (.c .r (.c .r (.c .r (.c .r .n))))))))))))))))))))) (Ref.start (r_tOr (r_t2 (r_eN (r_cons (r_vs h576 rfl (r_nil (r_opN sh_len rfl fun d641 => (r_vs h576 rfl (r_opB rfl rfl fun t642 => (r_orB (Kd := (fun (t701 : Bool) => t701)) (A2 := (fun (t701 : Bool) => [.any, .any, .sh v_n, .sh v_rows, .sh v_others, .sh v_told, .val v_other, .sh v_row, .sh x513, .sh d516, .sh d573, .any, .any, .any, .any, .any, .any, .any, .any, .any, .any])) h576 rfl (.c .r (.c .r (.c .r (.c .r (.c .r (.c .r (.c .r (.c .r (.c .r (.c .r (.c .r (.c .r (.c .r (.c .r (.c .r (.c .r (.c .r (.c .r (.c .r (.c .r (.c .r .n))))))))))))))))))))) (Ref.start (r_tOr (r_tNot (r_tV (r_eN (r_cons (r_lc (r_iV (r_vs h576 rfl (r_opL rfl fun l672 => (r_map (Ai := [.any, .any, .sh v_n, .sh v_rows, .sh v_others, .sh v_told, .val v_other, .sh v_row, .sh x513, .sh d516, .sh d573, .any, .any, .any, .any, .any, .any, .any, .any, .any, .any]) (A2 := [.any, .any, .sh v_n, .sh v_rows, .sh v_others, .sh v_told, .val v_other, .sh v_row, .sh x513, .sh d516, .sh d573, .any, .any, .any, .any, .any, .any, .any, .any, .any, .any]) (h576.wipe [18]) (fun x679 _ h680 => (r_gNm (have h682 := set_s h680 18 x679; (Ref.start (r_e2 (r_e2 (r_vs h682 rfl (r_call (r_cons (r_vs h682 rfl (r_nil (r_cgo (K := .val) rfl rfl (L__law_lead x679) fun d683 _ h684 => (r_op2 sh_ix rfl (val_d h684) fun d685 => (r_c (r_op2 sh_cmp rfl rfl fun d686 => (Ref.fin ⟨rfl, (h682.wipe [18])⟩)))))))))))))))) (fun _ h681 => (EA.rest0 18 h681 rfl)) fun l687 _ h688 => (r_nil (r_opN sh_all rfl fun d689 => (r_tru rfl fun t690 => (r_orB (Kd := (fun (t699 : Bool) => t699)) (A2 := (fun (t699 : Bool) => [.any, .any, .sh v_n, .sh v_rows, .sh v_others, .sh v_told, .val v_other, .sh v_row, .sh x513, .sh d516, .sh d573, .any, .any, .any, .any, .any, .any, .any, .any, .any, .any])) h688 rfl (.c .r (.c .r (.c .r (.c .r (.c .r (.c .r (.c .r (.c .r (.c .r (.c .r (.c .r (.c .r (.c .r (.c .r (.c .r (.c .r (.c .r (.c .r (.c .r (.c .r (.c .r .n))))))))))))))))))))) (Ref.start (r_t2 (r_e2 (r_vs h688 rfl (r_e2 (r_eN (r_cons (r_c (r_nil (r_opN sh_tup rfl fun d695 => (r_vs h688 rfl (r_op2 sh_mul rfl rfl fun d696 => (r_op2 sh_cmp rfl rfl fun d697 => (r_vs h688 rfl (r_opB rfl rfl fun t698 => (Ref.fin ⟨rfl, h688⟩)))))))))))))))) fun t699 _ h700 => (Ref.fin ⟨rfl, h700⟩)))))))))))))))) fun t701 _ h702 => (Ref.fin ⟨rfl, h702⟩)))))))))))) fun t703 _ h704 => (r_ifR (ends_PQ rt_PR.nx) (r_last (r_ret (r_c (Ref.fin ⟨_, rfl, sh_v⟩)))) (r_nx (r_last (r_sIf (r_tOr (r_tNot (r_tV (r_call (r_cons (r_vs h704 rfl (r_cons (r_e2 (r_vs h704 rfl (r_eN (r_cons (r_vs h704 rfl (r_nil (r_opNf fr_lst rfl fun d705 _ h706 => (r_op2f fr_add rfl (fr_d h706) fun d707 _ h708 => (r_cons (r_vs h704 rfl (r_nil (r_cgo (K := .val) (lc rfl (lc (fr_d h708) (lc rfl rfl))) rfl (L__law_within d573 d707 v_n) fun d709 _ h710 => (r_tru (val_d h710) fun t711 => (r_orB (Kd := (fun (t726 : Bool) => t726)) (A2 := (fun (t726 : Bool) => [.any, .any, .sh v_n, .sh v_rows, .sh v_others, .sh v_told, .val v_other, .sh v_row, .sh x513, .sh d516, .sh d573, .any, .any, .any, .any, .any, .any, .any, .any, .any, .any])) h704 rfl (.c .r (.c .r (.c .r (.c .r (.c .r (.c .r (.c .r (.c .r (.c .r (.c .r (.c .r (.c .r (.c .r (.c .r (.c .r (.c .r (.c .r (.c .r (.c .r (.c .r (.c .r .n))))))))))))))))))))) (Ref.start (r_tNot (r_tV (r_call (r_cons (r_vs h704 rfl (r_cons (r_e2 (r_vs h704 rfl (r_eN (r_cons (r_vs h704 rfl (r_nil (r_opNf fr_lst rfl fun d719 _ h720 => (r_op2f fr_add rfl (fr_d h720) fun d721 _ h722 => (r_cons (r_vs h704 rfl (r_nil (r_cgo (K := .val) (lc rfl (lc (fr_d h722) (lc rfl rfl))) rfl (L__law_within x513 d721 v_n) fun d723 _ h724 => (r_tru (val_d h724) fun t725 => (Ref.fin ⟨rfl, h704⟩))))))))))))))))))))) fun t726 _ h727 => (r_ifR (ends_PQ rt_PR.nx) (r_last (r_ret (r_c (Ref.fin ⟨_, rfl, sh_v⟩)))) (r_nx (Ref.fin ⟨.inl rfl, (h727.wk (.c .r (.c .r (.c .r (.c .r (.c .r (.c .r (.c .r (.c .r (.c .a (.c .a (.c .a (.c .r (.c .r (.c .r (.c .r (.c .r (.c .r (.c .r (.c .r (.c .r (.c .r .n))))))))))))))))))))))⟩))))))))))))))))))))))))))))))))))))))))))))))))))))))))))))))))))))))))))))))))))))))) fun s729 _ h728 => (L_law_9 v_n v_rows v_others v_told v_other v_row h728)))))))))))))
def F_law_7 (v_state : D) (v_n : D) (v_rows : D) (v_others : D) (v_told : D) (v_other : D) : Res D :=
bR v_state (
(F__law_row v_state v_n).bind fun p288 => bR p288.2 (
F_law_8 v_n v_rows v_others v_told v_other p288.1))
theorem L_law_7 (v_state : D) (v_n : D) (v_rows : D) (v_others : D) (v_told : D) (v_other : D) {E : Ev} (h286 : EA [.any, .own v_state, .sh v_n, .sh v_rows, .sh v_others, .sh v_told, .val v_other, .any, .any, .any, .any, .any, .any, .any, .any, .any, .any, .any, .any, .any, .any] E) : Ref (mr_7 E) (F_law_7 v_state v_n v_rows v_others v_told v_other) (PR .val) := (r_asg (r_callB h286 rfl fun hm287 => (r_cons (r_vs h286 rfl (r_nil (r_goB (K := .val) h286 rfl hm287 rfl rfl (L__law_row v_state v_n) fun p288 _ _ h290 h289 => (have h291 := (set_val h289 7 h290); (L_law_8 v_n v_rows v_others v_told v_other p288.1 (h291.wk (.c .r (.c .a (.c .r (.c .r (.c .r (.c .r (.c .r (.c .r (.c .r (.c .r (.c .r (.c .r (.c .r (.c .r (.c .r (.c .r (.c .r (.c .r (.c .r (.c .r (.c .r .n))))))))))))))))))))))))))))))
def F_law_6 (v_state : D) (v_n : D) (v_rows : D) (v_others : D) (v_told : D) : Res D :=
(F_space_of v_others v_n).bind fun d283 =>
F_law_7 v_state v_n v_rows v_others v_told d283
theorem L_law_6 (v_state : D) (v_n : D) (v_rows : D) (v_others : D) (v_told : D) {E : Ev} (h282 : EA [.any, .own v_state, .sh v_n, .sh v_rows, .sh v_others, .sh v_told, .any, .any, .any, .any, .any, .any, .any, .any, .any, .any, .any, .any, .any, .any, .any] E) : Ref (mr_6 E) (F_law_6 v_state v_n v_rows v_others v_told) (PR .val) := (r_asg (r_call (r_cons (r_vs h282 rfl (r_cons (r_vs h282 rfl (r_nil (r_cgo (K := .val) rfl rfl (L_space_of v_others v_n) fun d283 _ h284 => (have h285 := (set_val h282 6 h284); (L_law_7 v_state v_n v_rows v_others v_told d283 h285))))))))))
def F_law_5 (v_state : D) (v_n : D) (v_rows : D) (v_others : D) (v_told : D) : Res D :=
(rN fTupOf [v_rows]).bind fun d238 =>
(F_space_of d238 v_n).bind fun d239 =>
(F__law_same 11 d239 v_told).bind fun d241 =>
(rTru d241).bind fun t243 =>
(orB (!t243) true ((F_rank_of v_rows v_n).bind fun d262 =>
(rN fLen [v_told]).bind fun d264 =>
(F__law_same 11 d262 d264).bind fun d265 =>
(rTru d265).bind fun t267 =>
(orB (!t267) true ((F__law_least v_rows v_n).bind fun d273 =>
(F__law_same 11 v_told d273).bind fun d275 =>
(rTru d275).bind fun t277 =>
.ok (!t277))).bind fun t278 =>
.ok t278)).bind fun t280 =>
if t280 = true then
.ok (D.bl false) else
F_law_6 v_state v_n v_rows v_others v_told
theorem L_law_5 (v_state : D) (v_n : D) (v_rows : D) (v_others : D) (v_told : D) {E : Ev} (h237 : EA [.any, .own v_state, .sh v_n, .sh v_rows, .sh v_others, .sh v_told, .any, .any, .any, .any, .any, .any, .any, .any, .any, .any, .any, .any, .any, .any, .any] E) : Ref (mr_5 E) (F_law_5 v_state v_n v_rows v_others v_told) (PR .val) := (r_sIf (r_tOr (r_tNot (r_tV (r_call (r_cons (r_call (r_cons (r_eN (r_cons (r_vs h237 rfl (r_nil (r_opN sh_tupOf rfl fun d238 => (r_cons (r_vs h237 rfl (r_nil (r_cgo (K := .val) rfl rfl (L_space_of d238 v_n) fun d239 _ h240 => (r_cons (r_vs h237 rfl (r_nil (r_cgo (K := .val) (lc (val_d h240) (lc rfl rfl)) rfl (L__law_same 11 d239 v_told) fun d241 _ h242 => (r_tru (val_d h242) fun t243 => (r_orB (Kd := (fun (t280 : Bool) => t280)) (A2 := (fun (t280 : Bool) => [.any, .own v_state, .sh v_n, .sh v_rows, .sh v_others, .sh v_told, .any, .any, .any, .any, .any, .any, .any, .any, .any, .any, .any, .any, .any, .any, .any])) h237 rfl (.c .r (.c .r (.c .r (.c .r (.c .r (.c .r (.c .r (.c .r (.c .r (.c .r (.c .r (.c .r (.c .r (.c .r (.c .r (.c .r (.c .r (.c .r (.c .r (.c .r (.c .r .n))))))))))))))))))))) (Ref.start (r_tOr (r_tNot (r_tV (r_call (r_cons (r_call (r_cons (r_vs h237 rfl (r_cons (r_vs h237 rfl (r_nil (r_cgo (K := .val) rfl rfl (L_rank_of v_rows v_n) fun d262 _ h263 => (r_cons (r_eN (r_cons (r_vs h237 rfl (r_nil (r_opN sh_len rfl fun d264 => (r_nil (r_cgo (K := .val) (lc (val_d h263) (lc rfl rfl)) rfl (L__law_same 11 d262 d264) fun d265 _ h266 => (r_tru (val_d h266) fun t267 => (r_orB (Kd := (fun (t278 : Bool) => t278)) (A2 := (fun (t278 : Bool) => [.any, .own v_state, .sh v_n, .sh v_rows, .sh v_others, .sh v_told, .any, .any, .any, .any, .any, .any, .any, .any, .any, .any, .any, .any, .any, .any, .any])) h237 rfl (.c .r (.c .r (.c .r (.c .r (.c .r (.c .r (.c .r (.c .r (.c .r (.c .r (.c .r (.c .r (.c .r (.c .r (.c .r (.c .r (.c .r (.c .r (.c .r (.c .r (.c .r .n))))))))))))))))))))) (Ref.start (r_tNot (r_tV (r_call (r_cons (r_vs h237 rfl (r_cons (r_call (r_cons (r_vs h237 rfl (r_cons (r_vs h237 rfl (r_nil (r_cgo (K := .val) rfl rfl (L__law_least v_rows v_n) fun d273 _ h274 => (r_nil (r_cgo (K := .val) (lc rfl (lc (val_d h274) rfl)) rfl (L__law_same 11 v_told d273) fun d275 _ h276 => (r_tru (val_d h276) fun t277 => (Ref.fin ⟨rfl, h237⟩)))))))))))))))))) fun t278 _ h279 => (Ref.fin ⟨rfl, h279⟩)))))))))))))))))))))))) fun t280 _ h281 => (r_ifR ends_PR (r_last (r_ret (r_c (Ref.fin ⟨_, rfl, sh_v⟩)))) (r_nx (L_law_6 v_state v_n v_rows v_others v_told h281))))))))))))))))))))))))))
def F_law_4 (v_state : D) (v_n : D) (v_rows : D) (v_others : D) (v_told : D) : Res D :=
(F__law_is_space v_told v_n).bind fun d32 =>
(rTru d32).bind fun t34 =>
(orB (!t34) true ((rN fLen [v_told]).bind fun d135 =>
(F__law_rank v_rows v_n).bind fun d136 =>
(rc2 cNe d135 d136).bind fun t138 =>
(orB t138 true ((rL itS v_rows).bind fun l186 =>
(mapR (fun x191 =>
(F__law_within x191 v_told v_n).bind fun d195 =>
.ok d195) l186).bind fun l197 =>
(rN fAll [(D.lst l197)]).bind fun d199 =>
(rTru d199).bind fun t200 =>
(orB (!t200) true ((rL itS v_told).bind fun l216 =>
(mapR (fun x221 =>
(F__law_within x221 v_rows v_n).bind fun d225 =>
.ok d225) l216).bind fun l227 =>
(rN fAll [(D.lst l227)]).bind fun d229 =>
(rTru d229).bind fun t230 =>
.ok (!t230))).bind fun t231 =>
.ok t231)).bind fun t233 =>
.ok t233)).bind fun t235 =>
if t235 = true then
.ok (D.bl false) else
F_law_5 v_state v_n v_rows v_others v_told
theorem L_law_4 (v_state : D) (v_n : D) (v_rows : D) (v_others : D) (v_told : D) {E : Ev} (h30 : EA [.any, .own v_state, .sh v_n, .sh v_rows, .sh v_others, .val v_told, .any, .any, .any, .any, .any, .any, .any, .any, .any, .any, .any, .any, .any, .any, .any] E) : Ref (mr_4 E) (F_law_4 v_state v_n v_rows v_others v_told) (PR .val) := (r_sIf (r_tOr (r_tNot (r_tV (r_call (r_cons (r_vv h30 rfl fun _ h31 => (r_cons (r_vs h31 rfl (r_nil (r_cgo (K := .val) rfl rfl (L__law_is_space v_told v_n) fun d32 _ h33 => (r_tru (val_d h33) fun t34 => (r_orB (Kd := (fun (t235 : Bool) => t235)) (A2 := (fun (t235 : Bool) => [.any, .own v_state, .sh v_n, .sh v_rows, .sh v_others, .sh v_told, .any, .any, .any, .any, .any, .any, .any, .any, .any, .any, .any, .any, .any, .any, .any])) h31 rfl (.c .r (.c .r (.c .r (.c .r (.c .r (.c .r (.c .r (.c .r (.c .r (.c .r (.c .r (.c .r (.c .r (.c .r (.c .r (.c .r (.c .r (.c .r (.c .r (.c .r (.c .r .n))))))))))))))))))))) (Ref.start (r_tOr (r_t2 (r_eN (r_cons (r_vs h31 rfl (r_nil (r_opN sh_len rfl fun d135 => (r_call (r_cons (r_vs h31 rfl (r_cons (r_vs h31 rfl (r_nil (r_cgo (K := .val) rfl rfl (L__law_rank v_rows v_n) fun d136 _ h137 => (r_opB rfl (val_d h137) fun t138 => (r_orB (Kd := (fun (t233 : Bool) => t233)) (A2 := (fun (t233 : Bool) => [.any, .own v_state, .sh v_n, .sh v_rows, .sh v_others, .sh v_told, .any, .any, .any, .any, .any, .any, .any, .any, .any, .any, .any, .any, .any, .any, .any])) h31 rfl (.c .r (.c .r (.c .r (.c .r (.c .r (.c .r (.c .r (.c .r (.c .r (.c .r (.c .r (.c .r (.c .r (.c .r (.c .r (.c .r (.c .r (.c .r (.c .r (.c .r (.c .r .n))))))))))))))))))))) (Ref.start (r_tOr (r_tNot (r_tV (r_eN (r_cons (r_lc (r_iV (r_vs h31 rfl (r_opL rfl fun l186 => (r_map (Ai := [.any, .own v_state, .sh v_n, .sh v_rows, .sh v_others, .sh v_told, .any, .any, .any, .any, .any, .any, .any, .any, .any, .any, .any, .any, .any, .any, .any]) (A2 := [.any, .own v_state, .sh v_n, .sh v_rows, .sh v_others, .sh v_told, .any, .any, .any, .any, .any, .any, .any, .any, .any, .any, .any, .any, .any, .any, .any]) (h31.wipe [7]) (fun x191 _ h192 => (r_gNm (have h194 := set_s h192 7 x191; (Ref.start (r_call (r_cons (r_vs h194 rfl (r_cons (r_vs h194 rfl (r_cons (r_vs h194 rfl (r_nil (r_cgo (K := .val) rfl rfl (L__law_within x191 v_told v_n) fun d195 _ h196 => (Ref.fin ⟨(val_d h196), (h194.wipe [7])⟩)))))))))))))) (fun _ h193 => (EA.rest0 7 h193 rfl)) fun l197 _ h198 => (r_nil (r_opN sh_all rfl fun d199 => (r_tru rfl fun t200 => (r_orB (Kd := (fun (t231 : Bool) => t231)) (A2 := (fun (t231 : Bool) => [.any, .own v_state, .sh v_n, .sh v_rows, .sh v_others, .sh v_told, .any, .any, .any, .any, .any, .any, .any, .any, .any, .any, .any, .any, .any, .any, .any])) h198 rfl (.c .r (.c .r (.c .r (.c .r (.c .r (.c .r (.c .r (.c .r (.c .r (.c .r (.c .r (.c .r (.c .r (.c .r (.c .r (.c .r (.c .r (.c .r (.c .r (.c .r (.c .r .n))))))))))))))))))))) (Ref.start (r_tNot (r_tV (r_eN (r_cons (r_lc (r_iV (r_vs h198 rfl (r_opL rfl fun l216 => (r_map (Ai := [.any, .own v_state, .sh v_n, .sh v_rows, .sh v_others, .sh v_told, .any, .any, .any, .any, .any, .any, .any, .any, .any, .any, .any, .any, .any, .any, .any]) (A2 := [.any, .own v_state, .sh v_n, .sh v_rows, .sh v_others, .sh v_told, .any, .any, .any, .any, .any, .any, .any, .any, .any, .any, .any, .any, .any, .any, .any]) (h198.wipe [7]) (fun x221 _ h222 => (r_gNm (have h224 := set_s h222 7 x221; (Ref.start (r_call (r_cons (r_vs h224 rfl (r_cons (r_vs h224 rfl (r_cons (r_vs h224 rfl (r_nil (r_cgo (K := .val) rfl rfl (L__law_within x221 v_rows v_n) fun d225 _ h226 => (Ref.fin ⟨(val_d h226), (h224.wipe [7])⟩)))))))))))))) (fun _ h223 => (EA.rest0 7 h223 rfl)) fun l227 _ h228 => (r_nil (r_opN sh_all rfl fun d229 => (r_tru rfl fun t230 => (Ref.fin ⟨rfl, h228⟩)))))))))))))) fun t231 _ h232 => (Ref.fin ⟨rfl, h232⟩)))))))))))))))) fun t233 _ h234 => (Ref.fin ⟨rfl, h234⟩)))))))))))))))))) fun t235 _ h236 => (r_ifR ends_PR (r_last (r_ret (r_c (Ref.fin ⟨_, rfl, sh_v⟩)))) (r_nx (L_law_5 v_state v_n v_rows v_others v_told h236))))))))))))))))
def F_law_3 (v_state : D) (v_n : D) (v_rows : D) (v_others : D) : Res D :=
(F_space_of v_rows v_n).bind fun d27 =>
F_law_4 v_state v_n v_rows v_others d27
theorem L_law_3 (v_state : D) (v_n : D) (v_rows : D) (v_others : D) {E : Ev} (h26 : EA [.any, .own v_state, .sh v_n, .sh v_rows, .sh v_others, .any, .any, .any, .any, .any, .any, .any, .any, .any, .any, .any, .any, .any, .any, .any, .any] E) : Ref (mr_3 E) (F_law_3 v_state v_n v_rows v_others) (PR .val) := (r_asg (r_call (r_cons (r_vs h26 rfl (r_cons (r_vs h26 rfl (r_nil (r_cgo (K := .val) rfl rfl (L_space_of v_rows v_n) fun d27 _ h28 => (have h29 := (set_val h26 5 h28); (L_law_4 v_state v_n v_rows v_others d27 h29))))))))))
def F_law_2 (v_state : D) (v_n : D) : Res D :=
bR v_state (
(F__law_drawn_rows v_state v_n).bind fun p14 => bR p14.2 (
bR p14.2 (
(F__law_drawn_rows p14.2 v_n).bind fun p18 => bR p18.2 (
(rN fTup [p14.1, p18.1]).bind fun d21 =>
un2 d21 fun x22 x23 =>
F_law_3 p18.2 v_n x22 x23))))
theorem L_law_2 (v_state : D) (v_n : D) {E : Ev} (h11 : EA [.any, .own v_state, .val v_n, .any, .any, .any, .any, .any, .any, .any, .any, .any, .any, .any, .any, .any, .any, .any, .any, .any, .any] E) : Ref (mr_2 E) (F_law_2 v_state v_n) (PR .val) := (r_asgG (r_eN (r_cons (r_callB h11 rfl fun hm12 => (r_cons (r_vv h11 rfl fun _ h13 => (r_nil (r_goB (K := .fr) h13 rfl hm12 rfl rfl (L__law_drawn_rows v_state v_n) fun p14 _ _ h16 h15 => (r_cons (r_callB h15 rfl fun hm17 => (r_cons (r_vs h15 rfl (r_nil (r_goB (K := .fr) h15 rfl hm17 rfl rfl (L__law_drawn_rows p14.2 v_n) fun p18 _ _ h20 h19 => (r_nil (r_opN sh_tup (lc (fr_d h16) (lc (fr_d h20) rfl)) fun d21 => (r_g2 fun x22 x23 => (r_gNm (have h24 := set_s h19 3 x22; (r_gNm (have h25 := set_s h24 4 x23; (L_law_3 p18.2 v_n x22 x23 h25))))))))))))))))))))))
def F_law_1 (v_state : D) : Res D :=
bR v_state (
(F__law_take v_state (D.int 6)).bind fun p7 => bR p7.2 (
F_law_2 p7.2 p7.1))
theorem L_law_1 (v_state : D) {E : Ev} (h5 : EA [.any, .own v_state, .any, .any, .any, .any, .any, .any, .any, .any, .any, .any, .any, .any, .any, .any, .any, .any, .any, .any, .any] E) : Ref (mr_1 E) (F_law_1 v_state) (PR .val) := (r_asg (r_callB h5 rfl fun hm6 => (r_cons (r_c (r_nil (r_goB (K := .val) h5 rfl hm6 rfl rfl (L__law_take v_state (D.int 6)) fun p7 _ _ h9 h8 => (have h10 := (set_val h8 2 h9); (L_law_2 p7.2 p7.1 h10))))))))
def F_law_0 (a_script : D) : Res D :=
(F__law_state a_script).bind fun d2 =>
F_law_1 d2
theorem L_law_0 (a_script : D) {E : Ev} (h1 : EA [.sh a_script, .any, .any, .any, .any, .any, .any, .any, .any, .any, .any, .any, .any, .any, .any, .any, .any, .any, .any, .any, .any] E) : Ref (mr_0 E) (F_law_0 a_script) (PR .val) := (r_asg (r_call (r_cons (r_vs h1 rfl (r_nil (r_cgo (K := .fr) rfl rfl (L__law_state a_script) fun d2 _ h3 => (have h4 := (set_fr h1 1 h3); (L_law_1 d2 (h4.wk (.c .a (.c .r (.c .r (.c .r (.c .r (.c .r (.c .r (.c .r (.c .r (.c .r (.c .r (.c .r (.c .r (.c .r (.c .r (.c .r (.c .r (.c .r (.c .r (.c .r (.c .r .n))))))))))))))))))))))))))))))
theorem L_law (a_script : D) : FOk (f_law [a_script]) (F_law_0 a_script) .val := by
  have h0 : EA [.sh a_script, .any, .any, .any, .any, .any, .any, .any, .any, .any, .any, .any, .any, .any, .any, .any, .any, .any, .any, .any, .any] (ev0 21 [a_script]) := (.cons rfl (.cons trivial (.cons trivial (.cons trivial (.cons trivial (.cons trivial (.cons trivial (.cons trivial (.cons trivial (.cons trivial (.cons trivial (.cons trivial (.cons trivial (.cons trivial (.cons trivial (.cons trivial (.cons trivial (.cons trivial (.cons trivial (.cons trivial (.cons trivial .nil)))))))))))))))))))))
  exact fn_R (m := mr_0) (L_law_0 a_script h0)
end K03

/-! Printed by gen.py: the head's facts. -/
namespace K03
open PySem PySem.Spec PyProof.Rows L2 MM
def dD_is_integer : He.DefD := ⟨("is_integer", none), "is_integer", "is_integer", defArgs s_is_integer, defBody s_is_integer, defScope s_is_integer, [], []⟩
def dD_is_row : He.DefD := ⟨("is_row", none), "is_row", "is_row", defArgs s_is_row, defBody s_is_row, defScope s_is_row, [], []⟩
def dD_check_from : He.DefD := ⟨("check_from", none), "check_from", "check_from", defArgs s_check_from, defBody s_check_from, defScope s_check_from, [], []⟩
def dD_check_row : He.DefD := ⟨("check_row", none), "check_row", "check_row", defArgs s_check_row, defBody s_check_row, defScope s_check_row, [], []⟩
def dD_common : He.DefD := ⟨("common", none), "common", "common", defArgs s_common, defBody s_common, defScope s_common, [], []⟩
def dD_common_of : He.DefD := ⟨("common_of", none), "common_of", "common_of", defArgs s_common_of, defBody s_common_of, defScope s_common_of, [], []⟩
def dD_unit_table : He.DefD := ⟨("unit_table", none), "unit_table", "unit_table", defArgs s_unit_table, defBody s_unit_table, defScope s_unit_table, [], []⟩
def dD_is_rows : He.DefD := ⟨("is_rows", none), "is_rows", "is_rows", defArgs s_is_rows, defBody s_is_rows, defScope s_is_rows, [], []⟩
def dD_check_rows : He.DefD := ⟨("check_rows", none), "check_rows", "check_rows", defArgs s_check_rows, defBody s_check_rows, defScope s_check_rows, [], []⟩
def dD_slim : He.DefD := ⟨("slim", none), "slim", "slim", defArgs s_slim, defBody s_slim, defScope s_slim, [], []⟩
def dD_lead_of : He.DefD := ⟨("lead_of", none), "lead_of", "lead_of", defArgs s_lead_of, defBody s_lead_of, defScope s_lead_of, [], []⟩
def dD_cleared : He.DefD := ⟨("cleared", none), "cleared", "cleared", defArgs s_cleared, defBody s_cleared, defScope s_cleared, [], []⟩
def dD_space_of : He.DefD := ⟨("space_of", none), "space_of", "space_of", defArgs s_space_of, defBody s_space_of, defScope s_space_of, [], []⟩
def dD_is_space : He.DefD := ⟨("is_space", none), "is_space", "is_space", defArgs s_is_space, defBody s_is_space, defScope s_is_space, [], []⟩
def dD_check_space : He.DefD := ⟨("check_space", none), "check_space", "check_space", defArgs s_check_space, defBody s_check_space, defScope s_check_space, [], []⟩
def dD_is_within : He.DefD := ⟨("is_within", none), "is_within", "is_within", defArgs s_is_within, defBody s_is_within, defScope s_is_within, [], []⟩
def dD_rest_of : He.DefD := ⟨("rest_of", none), "rest_of", "rest_of", defArgs s_rest_of, defBody s_rest_of, defScope s_rest_of, [], []⟩
def dD_is_part : He.DefD := ⟨("is_part", none), "is_part", "is_part", defArgs s_is_part, defBody s_is_part, defScope s_is_part, [], []⟩
def dD_whole_space : He.DefD := ⟨("whole_space", none), "whole_space", "whole_space", defArgs s_whole_space, defBody s_whole_space, defScope s_whole_space, [], []⟩
def dD_rank_of : He.DefD := ⟨("rank_of", none), "rank_of", "rank_of", defArgs s_rank_of, defBody s_rank_of, defScope s_rank_of, [], []⟩
def dD_free_places : He.DefD := ⟨("free_places", none), "free_places", "free_places", defArgs s_free_places, defBody s_free_places, defScope s_free_places, [], []⟩
def dD_beside : He.DefD := ⟨("beside", none), "beside", "beside", defArgs s_beside, defBody s_beside, defScope s_beside, [], []⟩
def dD_is_direct : He.DefD := ⟨("is_direct", none), "is_direct", "is_direct", defArgs s_is_direct, defBody s_is_direct, defScope s_is_direct, [], []⟩
def dD__law_state : He.DefD := ⟨("_law_state", none), "_law_state", "_law_state", defArgs s__law_state, defBody s__law_state, defScope s__law_state, [], []⟩
def dD__law_take : He.DefD := ⟨("_law_take", none), "_law_take", "_law_take", defArgs s__law_take, defBody s__law_take, defScope s__law_take, [], []⟩
def dD__law_says : He.DefD := ⟨("_law_says", none), "_law_says", "_law_says", defArgs s__law_says, defBody s__law_says, defScope s__law_says, [], []⟩
def dD__law_is_whole : He.DefD := ⟨("_law_is_whole", none), "_law_is_whole", "_law_is_whole", defArgs s__law_is_whole, defBody s__law_is_whole, defScope s__law_is_whole, [], []⟩
def dD__law_same : He.DefD := ⟨("_law_same", none), "_law_same", "_law_same", defArgs s__law_same, defBody s__law_same, defScope s__law_same, [], []⟩
def dD__law_told : He.DefD := ⟨("_law_told", none), "_law_told", "_law_told", defArgs s__law_told, defBody s__law_told, defScope s__law_told, [], []⟩
def dD__law_all_malformed : He.DefD := ⟨("_law_all_malformed", none), "_law_all_malformed", "_law_all_malformed", defArgs s__law_all_malformed, defBody s__law_all_malformed, defScope s__law_all_malformed, [], []⟩
def dD__law_common : He.DefD := ⟨("_law_common", none), "_law_common", "_law_common", defArgs s__law_common, defBody s__law_common, defScope s__law_common, [], []⟩
def dD__law_unit : He.DefD := ⟨("_law_unit", none), "_law_unit", "_law_unit", defArgs s__law_unit, defBody s__law_unit, defScope s__law_unit, [], []⟩
def dD__law_slim : He.DefD := ⟨("_law_slim", none), "_law_slim", "_law_slim", defArgs s__law_slim, defBody s__law_slim, defScope s__law_slim, [], []⟩
def dD__law_least : He.DefD := ⟨("_law_least", none), "_law_least", "_law_least", defArgs s__law_least, defBody s__law_least, defScope s__law_least, [], []⟩
def dD__law_rank : He.DefD := ⟨("_law_rank", none), "_law_rank", "_law_rank", defArgs s__law_rank, defBody s__law_rank, defScope s__law_rank, [], []⟩
def dD__law_within : He.DefD := ⟨("_law_within", none), "_law_within", "_law_within", defArgs s__law_within, defBody s__law_within, defScope s__law_within, [], []⟩
def dD__law_number : He.DefD := ⟨("_law_number", none), "_law_number", "_law_number", defArgs s__law_number, defBody s__law_number, defScope s__law_number, [], []⟩
def dD__law_row : He.DefD := ⟨("_law_row", none), "_law_row", "_law_row", defArgs s__law_row, defBody s__law_row, defScope s__law_row, [], []⟩
def dD__law_lead : He.DefD := ⟨("_law_lead", none), "_law_lead", "_law_lead", defArgs s__law_lead, defBody s__law_lead, defScope s__law_lead, [], []⟩
def dD__law_is_space : He.DefD := ⟨("_law_is_space", none), "_law_is_space", "_law_is_space", defArgs s__law_is_space, defBody s__law_is_space, defScope s__law_is_space, [], []⟩
def dD__law_drawn_rows : He.DefD := ⟨("_law_drawn_rows", none), "_law_drawn_rows", "_law_drawn_rows", defArgs s__law_drawn_rows, defBody s__law_drawn_rows, defScope s__law_drawn_rows, [], []⟩
def dD_law : He.DefD := ⟨("law", none), "law", "law", defArgs s_law, defBody s_law, defScope s_law, [], []⟩
def fnl : List He.DefD := (([dD_is_integer, dD_is_row, dD_check_from, dD_check_row, dD_common, dD_common_of, dD_unit_table, dD_is_rows, dD_check_rows, dD_slim, dD_lead_of, dD_cleared, dD_space_of, dD_is_space, dD_check_space, dD_is_within, dD_rest_of, dD_is_part, dD_whole_space, dD_rank_of, dD_free_places, dD_beside, dD_is_direct, dD__law_state, dD__law_take, dD__law_says, dD__law_is_whole, dD__law_same, dD__law_told, dD__law_all_malformed] : List He.DefD) ++ ([dD__law_common, dD__law_unit, dD__law_slim, dD__law_least, dD__law_rank, dD__law_within, dD__law_number, dD__law_row, dD__law_lead, dD__law_is_space, dD__law_drawn_rows, dD_law] : List He.DefD))
def fal : List He.Fa := (([.glo "Fault", .glo "Malformed", .glo "Refused", .glo "is_integer", .glo "is_row", .glo "check_from", .glo "check_row", .glo "common", .glo "common_of", .glo "unit_table", .glo "is_rows", .glo "check_rows", .glo "slim", .glo "lead_of", .glo "cleared", .glo "space_of", .glo "is_space", .glo "check_space", .glo "is_within", .glo "rest_of", .glo "is_part", .glo "whole_space", .glo "rank_of", .glo "free_places", .glo "beside", .glo "is_direct", .glo "_law_state", .glo "_law_take", .glo "_law_says", .glo "_law_is_whole"] : List He.Fa) ++ ([.glo "_law_same", .glo "_law_told", .glo "_law_all_malformed", .glo "_law_common", .glo "_law_unit", .glo "_law_slim", .glo "_law_least", .glo "_law_rank", .glo "_law_within", .glo "_law_number", .glo "_law_row", .glo "_law_lead", .glo "_law_is_space", .glo "_law_drawn_rows", .glo "law", .free "abs", .free "all", .free "bool", .free "enumerate", .free "int", .free "isinstance", .free "len", .free "list", .free "range", .free "str", .free "tuple", .free "zip", .exc "Fault", .exc "Malformed", .int "MOST_WIDE" 256] : List He.Fa) ++ ([.exm "Fault" "Fault" true, .exm "Fault" "Malformed" false, .exm "Fault" "Refused" false, .exm "Malformed" "Fault" true, .exm "Malformed" "Malformed" true, .exm "Malformed" "Refused" false, .exm "Refused" "Fault" true, .exm "Refused" "Malformed" false, .exm "Refused" "Refused" true] : List He.Fa))
theorem txt_of {K : PySem.W.Frag} {h : Heap} {mg : Str → Option Value} (X : K.In h) (G : h.Ns mainGlobals mg) (c : He.SaysD fal fnl K) : Txt K mg where
  f_is_integer := c.def_ 0 (d := dD_is_integer) rfl
  f_is_row := c.def_ 1 (d := dD_is_row) rfl
  f_check_from := c.def_ 2 (d := dD_check_from) rfl
  f_check_row := c.def_ 3 (d := dD_check_row) rfl
  f_common := c.def_ 4 (d := dD_common) rfl
  f_common_of := c.def_ 5 (d := dD_common_of) rfl
  f_unit_table := c.def_ 6 (d := dD_unit_table) rfl
  f_is_rows := c.def_ 7 (d := dD_is_rows) rfl
  f_check_rows := c.def_ 8 (d := dD_check_rows) rfl
  f_slim := c.def_ 9 (d := dD_slim) rfl
  f_lead_of := c.def_ 10 (d := dD_lead_of) rfl
  f_cleared := c.def_ 11 (d := dD_cleared) rfl
  f_space_of := c.def_ 12 (d := dD_space_of) rfl
  f_is_space := c.def_ 13 (d := dD_is_space) rfl
  f_check_space := c.def_ 14 (d := dD_check_space) rfl
  f_is_within := c.def_ 15 (d := dD_is_within) rfl
  f_rest_of := c.def_ 16 (d := dD_rest_of) rfl
  f_is_part := c.def_ 17 (d := dD_is_part) rfl
  f_whole_space := c.def_ 18 (d := dD_whole_space) rfl
  f_rank_of := c.def_ 19 (d := dD_rank_of) rfl
  f_free_places := c.def_ 20 (d := dD_free_places) rfl
  f_beside := c.def_ 21 (d := dD_beside) rfl
  f_is_direct := c.def_ 22 (d := dD_is_direct) rfl
  f__law_state := c.def_ 23 (d := dD__law_state) rfl
  f__law_take := c.def_ 24 (d := dD__law_take) rfl
  f__law_says := c.def_ 25 (d := dD__law_says) rfl
  f__law_is_whole := c.def_ 26 (d := dD__law_is_whole) rfl
  f__law_same := c.def_ 27 (d := dD__law_same) rfl
  f__law_told := c.def_ 28 (d := dD__law_told) rfl
  f__law_all_malformed := c.def_ 29 (d := dD__law_all_malformed) rfl
  f__law_common := c.def_ 30 (d := dD__law_common) rfl
  f__law_unit := c.def_ 31 (d := dD__law_unit) rfl
  f__law_slim := c.def_ 32 (d := dD__law_slim) rfl
  f__law_least := c.def_ 33 (d := dD__law_least) rfl
  f__law_rank := c.def_ 34 (d := dD__law_rank) rfl
  f__law_within := c.def_ 35 (d := dD__law_within) rfl
  f__law_number := c.def_ 36 (d := dD__law_number) rfl
  f__law_row := c.def_ 37 (d := dD__law_row) rfl
  f__law_lead := c.def_ 38 (d := dD__law_lead) rfl
  f__law_is_space := c.def_ 39 (d := dD__law_is_space) rfl
  f__law_drawn_rows := c.def_ 40 (d := dD__law_drawn_rows) rfl
  f_law := c.def_ 41 (d := dD_law) rfl
  g_Fault := He.glo_ok X G (c.fact 0 (f := .glo "Fault") rfl)
  g_Malformed := He.glo_ok X G (c.fact 1 (f := .glo "Malformed") rfl)
  g_Refused := He.glo_ok X G (c.fact 2 (f := .glo "Refused") rfl)
  g_is_integer := He.glo_ok X G (c.fact 3 (f := .glo "is_integer") rfl)
  g_is_row := He.glo_ok X G (c.fact 4 (f := .glo "is_row") rfl)
  g_check_from := He.glo_ok X G (c.fact 5 (f := .glo "check_from") rfl)
  g_check_row := He.glo_ok X G (c.fact 6 (f := .glo "check_row") rfl)
  g_common := He.glo_ok X G (c.fact 7 (f := .glo "common") rfl)
  g_common_of := He.glo_ok X G (c.fact 8 (f := .glo "common_of") rfl)
  g_unit_table := He.glo_ok X G (c.fact 9 (f := .glo "unit_table") rfl)
  g_is_rows := He.glo_ok X G (c.fact 10 (f := .glo "is_rows") rfl)
  g_check_rows := He.glo_ok X G (c.fact 11 (f := .glo "check_rows") rfl)
  g_slim := He.glo_ok X G (c.fact 12 (f := .glo "slim") rfl)
  g_lead_of := He.glo_ok X G (c.fact 13 (f := .glo "lead_of") rfl)
  g_cleared := He.glo_ok X G (c.fact 14 (f := .glo "cleared") rfl)
  g_space_of := He.glo_ok X G (c.fact 15 (f := .glo "space_of") rfl)
  g_is_space := He.glo_ok X G (c.fact 16 (f := .glo "is_space") rfl)
  g_check_space := He.glo_ok X G (c.fact 17 (f := .glo "check_space") rfl)
  g_is_within := He.glo_ok X G (c.fact 18 (f := .glo "is_within") rfl)
  g_rest_of := He.glo_ok X G (c.fact 19 (f := .glo "rest_of") rfl)
  g_is_part := He.glo_ok X G (c.fact 20 (f := .glo "is_part") rfl)
  g_whole_space := He.glo_ok X G (c.fact 21 (f := .glo "whole_space") rfl)
  g_rank_of := He.glo_ok X G (c.fact 22 (f := .glo "rank_of") rfl)
  g_free_places := He.glo_ok X G (c.fact 23 (f := .glo "free_places") rfl)
  g_beside := He.glo_ok X G (c.fact 24 (f := .glo "beside") rfl)
  g_is_direct := He.glo_ok X G (c.fact 25 (f := .glo "is_direct") rfl)
  g__law_state := He.glo_ok X G (c.fact 26 (f := .glo "_law_state") rfl)
  g__law_take := He.glo_ok X G (c.fact 27 (f := .glo "_law_take") rfl)
  g__law_says := He.glo_ok X G (c.fact 28 (f := .glo "_law_says") rfl)
  g__law_is_whole := He.glo_ok X G (c.fact 29 (f := .glo "_law_is_whole") rfl)
  g__law_same := He.glo_ok X G (c.fact 30 (f := .glo "_law_same") rfl)
  g__law_told := He.glo_ok X G (c.fact 31 (f := .glo "_law_told") rfl)
  g__law_all_malformed := He.glo_ok X G (c.fact 32 (f := .glo "_law_all_malformed") rfl)
  g__law_common := He.glo_ok X G (c.fact 33 (f := .glo "_law_common") rfl)
  g__law_unit := He.glo_ok X G (c.fact 34 (f := .glo "_law_unit") rfl)
  g__law_slim := He.glo_ok X G (c.fact 35 (f := .glo "_law_slim") rfl)
  g__law_least := He.glo_ok X G (c.fact 36 (f := .glo "_law_least") rfl)
  g__law_rank := He.glo_ok X G (c.fact 37 (f := .glo "_law_rank") rfl)
  g__law_within := He.glo_ok X G (c.fact 38 (f := .glo "_law_within") rfl)
  g__law_number := He.glo_ok X G (c.fact 39 (f := .glo "_law_number") rfl)
  g__law_row := He.glo_ok X G (c.fact 40 (f := .glo "_law_row") rfl)
  g__law_lead := He.glo_ok X G (c.fact 41 (f := .glo "_law_lead") rfl)
  g__law_is_space := He.glo_ok X G (c.fact 42 (f := .glo "_law_is_space") rfl)
  g__law_drawn_rows := He.glo_ok X G (c.fact 43 (f := .glo "_law_drawn_rows") rfl)
  g_law := He.glo_ok X G (c.fact 44 (f := .glo "law") rfl)
  z_abs := He.free_ok X G (c.fact 45 (f := .free "abs") rfl)
  z_all := He.free_ok X G (c.fact 46 (f := .free "all") rfl)
  z_bool := He.free_ok X G (c.fact 47 (f := .free "bool") rfl)
  z_enumerate := He.free_ok X G (c.fact 48 (f := .free "enumerate") rfl)
  z_int := He.free_ok X G (c.fact 49 (f := .free "int") rfl)
  z_isinstance := He.free_ok X G (c.fact 50 (f := .free "isinstance") rfl)
  z_len := He.free_ok X G (c.fact 51 (f := .free "len") rfl)
  z_list := He.free_ok X G (c.fact 52 (f := .free "list") rfl)
  z_range := He.free_ok X G (c.fact 53 (f := .free "range") rfl)
  z_str := He.free_ok X G (c.fact 54 (f := .free "str") rfl)
  z_tuple := He.free_ok X G (c.fact 55 (f := .free "tuple") rfl)
  z_zip := He.free_ok X G (c.fact 56 (f := .free "zip") rfl)
  x_Fault := ⟨He.exc_ok (c.fact 57 (f := .exc "Fault") rfl)⟩
  x_Malformed := ⟨He.exc_ok (c.fact 58 (f := .exc "Malformed") rfl)⟩
  k_MOST_WIDE := He.int_ok X G (c.fact 59 (f := .int "MOST_WIDE" 256) rfl)
  sub := fun i j b h => by
    unfold sub at h
    split at h
    · cases h; exact He.exm_ok (c.fact 60 (f := .exm "Fault" "Fault" true) rfl)
    · cases h; exact He.exm_ok (c.fact 61 (f := .exm "Fault" "Malformed" false) rfl)
    · cases h; exact He.exm_ok (c.fact 62 (f := .exm "Fault" "Refused" false) rfl)
    · cases h; exact He.exm_ok (c.fact 63 (f := .exm "Malformed" "Fault" true) rfl)
    · cases h; exact He.exm_ok (c.fact 64 (f := .exm "Malformed" "Malformed" true) rfl)
    · cases h; exact He.exm_ok (c.fact 65 (f := .exm "Malformed" "Refused" false) rfl)
    · cases h; exact He.exm_ok (c.fact 66 (f := .exm "Refused" "Fault" true) rfl)
    · cases h; exact He.exm_ok (c.fact 67 (f := .exm "Refused" "Malformed" false) rfl)
    · cases h; exact He.exm_ok (c.fact 68 (f := .exm "Refused" "Refused" true) rfl)
    · cases h
abbrev R : PySem.W.OpenRow := PySem.W.OpenLaw.row PySem.Challenge.rw_bracketroads_k03_whole_least_rows
abbrev hk : PySem.W.Hook := He.hookD 4 fal fnl
def ob (s : PySem.W.SharedT) : He.AlD := He.obsDG 4 fal fnl (HandSHeadRun.getT s)
theorem ob_eq (s : PySem.W.SharedT) : ob s = hk.obs s.abs := He.obsDG_eq (HandSHeadRun.getT_eq s)
def oth : List Str := ((["Fault", "Malformed", "Refused", "is_integer", "is_row", "check_from", "check_row", "common", "common_of", "unit_table", "is_rows", "check_rows", "slim", "lead_of", "cleared", "space_of", "is_space", "check_space", "is_within", "rest_of", "is_part", "whole_space", "rank_of", "free_places", "beside", "is_direct", "_law_state", "_law_take", "_law_says", "_law_is_whole"] : List Str) ++ (["_law_same", "_law_told", "_law_all_malformed", "_law_common", "_law_unit", "_law_slim", "_law_least", "_law_rank", "_law_within", "_law_number", "_law_row", "_law_lead", "_law_is_space", "_law_drawn_rows", "MOST_WIDE"] : List Str))
theorem run (w : World) : HandSHeadRun.RunEq R (PySem.W.view R.prog [50]) hk ob 4000 oth w := by
  intro os
  kernel_rfl
/-- what is left to show: the law's function gives True -/
def Due : Prop := ∀ ns : List Int, ns.length ≤ 63 → ∃ r, f_law [.scr (ns.map .int)] = .ok r ∧ r.d = .bl true
theorem facts {P : Program} {w : World} {K : PySem.W.Frag} {h : Heap} {mg : Str → Option Value} {f : Addr} (X : K.In h) (G : h.Ns mainGlobals mg) (hfa : mg ("law" : Str) = some (.ref f)) (c : He.SaysD fal fnl K) :
    ∃ fd : FuncData, (∀ (s : Shared) (v : Value), BindsTo s fd ⟨[v], []⟩ [("script", v)]) ∧ ∀ base : Heap, K.In base → base.Ns mainGlobals mg → FnOk P w K mg base (L2.CX P w) 15 f fd ["script"] (fspec (CC K) 1 f_law) := by
  have T := txt_of X G c
  have e := hfa.symm.trans T.g_law
  cases e
  obtain ⟨fd, F⟩ := T.f_law
  have b := FunD.bindsA (ps := ["script"]) F fun _ _ _ _ _ _ us hl => match us, hl with | [_], _ => rfl
  refine ⟨fd, fun s v => b s [v] rfl, fun base _ _ => law_fn T F⟩
end K03
open PySem PySem.W PySem.Calls PyProof.Rows
theorem K03.holds_of (due : K03.Due) : PySem.Challenge.rw_bracketroads_k03_whole_least_rows.Holds := by
  w_on; o_law
  refine HandSHeadRun.head_any (r := OpenLaw.row PySem.Challenge.rw_bracketroads_k03_whole_least_rows) (q := view (OpenLaw.row PySem.Challenge.rw_bracketroads_k03_whole_least_rows).prog [50]) (H := K03.hk) (ob := K03.ob) (M := 4000) (loose := K03.oth) (d := HandSHeadRun.topDef (OpenLaw.row PySem.Challenge.rw_bracketroads_k03_whole_least_rows).prog 50) (kwd := []) K03.ob_eq
    (by kernel_rfl) (fun s => by kernel_rfl) K03.run (by kernel_rfl) (by kernel_rfl) (by kernel_rfl) (by rfl) (by first | assumption | decide +kernel) (by decide +kernel) ⟨rfl, rfl, rfl, rfl, rfl, by decide +kernel⟩ ?hw ?hc
  case hw => w_witness2
  case hc =>
    refine L2.walk_ofE (l := PySem.Challenge.rw_bracketroads_k03_whole_least_rows) (n := 63) (k := 15) (x := "script") (CX := L2.CX0) rfl (by decide) (by kernel_rfl) ⟨rfl, by decide, by decide⟩ ?F (fun _ _ _ _ z => z)
    intro w mg fa h Y G hmg0
    obtain ⟨K, KX, c⟩ := Y
    have hmg : mg ("law" : PySem.Str) = some (.ref fa) := by
      have e : (HandSHeadRun.topDef (OpenLaw.row PySem.Challenge.rw_bracketroads_k03_whole_least_rows).prog 50).name = ("law" : PySem.Str) := by kernel_rfl
      rw [← e]
      exact hmg0
    obtain ⟨fd, hb, hF⟩ := K03.facts (P := (PySem.Challenge.rw_bracketroads_k03_whole_least_rows).prog) (w := w) KX G hmg c
    exact ⟨K, fd, (fun vs H Q _ => MM.fspec (K03.CC K) 1 K03.f_law vs H Q fun _ _ _ => False), KX, hb, fun H a ns hl _ hS => MM.law_spec (C := K03.CC K) hS (due ns hl), fun base h1 h2 => MM.FnOk.noX (hF base h1 h2)⟩

/-! k03: the law. -/
namespace K03
open PySem PySem.Spec PyProof.Rows L2 MM SP
theorem e_state (a : D) : F__law_state a = G__law_state a := rfl
theorem e_take (a b : D) : F__law_take a b = G__law_take a b := rfl
theorem e_row (a b : D) : F__law_row a b = G__law_row a b := rfl
theorem e_drawn (a b : D) : F__law_drawn_rows a b = G__law_drawn_rows a b := rfl
theorem e_space (a b : D) : F_space_of a b = G_space_of 1 a b := rfl
theorem e_rank (a b : D) : F_rank_of a b = G_rank_of 1 a b := rfl
theorem e_lspace (a b : D) : F__law_is_space a b = G__law_is_space a b := rfl
theorem e_lrank (a b : D) : F__law_rank a b = G__law_rank a b := rfl
theorem e_least (a b : D) : F__law_least a b = G__law_least a b := rfl
theorem e_lwithin (a b c : D) : F__law_within a b c = G__law_within a b c := rfl
theorem e_within (a b c : D) : F_is_within a b c = G_is_within 1 a b c := rfl
theorem e_part (a b c : D) : F_is_part a b c = G_is_part 1 a b c := rfl
theorem e_slim (a : D) : F_slim a = G_slim a := rfl
theorem e_lslim (a : D) : F__law_slim a = G__law_slim a := rfl
theorem e_lead (a : D) : F_lead_of a = G_lead_of a := rfl
theorem e_llead (a : D) : F__law_lead a = G__law_lead a := rfl
theorem e_rest (a b : D) : F_rest_of a b = G_rest_of a b := rfl
theorem e_whole (a : D) : F_whole_space a = G_whole_space a := rfl
theorem e_unit (a : D) : F__law_unit a = G__law_unit a := rfl
theorem e_free (a b : D) : F_free_places a b = G_free_places 1 a b := rfl
theorem e_beside (a b : D) : F_beside a b = G_beside 1 a b := rfl
theorem e_direct (a b : D) : F_is_direct a b = G_is_direct 1 a b := rfl
theorem e_isspace (a b : D) : F_is_space a b = G_is_space 1 a b := rfl
theorem e_isrows (a b : D) : F_is_rows a b = G_is_rows a b := rfl
theorem e_says (a b : D) : F__law_says a b = G__law_says a b := rfl
theorem e_same : ∀ (n : Nat) (a b : D), F__law_same n a b = G__law_same n a b
  | 0, _, _ => rfl
  | n + 1, a, b => by
    have : F__law_same n = G__law_same n := by funext a b; exact e_same n a b
    show S__law_same (F__law_same n) a b = H__law_same (G__law_same n) a b
    rw [this]
    rfl
/-! ### malformed -/
theorem told2 {c : Nat} {a b : D} {f : List D → FO} (ht : tab2 c = some f) (hf : f [a, b] = .ex ⟨1, none⟩) : F__law_told tab1 tab2 tab3 tab4 tab5 (.gl c) (.tup [a, b]) = .ok (.tup [.str "malformed", .non]) := by
  unfold F__law_told
  have e : callL tab2 (.gl c) [a, b] = .ex ⟨1, none⟩ := by
    rw [callL_of ht, hf]
    rfl
  have g : ∀ {γ : Type} (r : Res γ), glR tab2 (.gl c) r = r := fun r => glR_of ht
  have x0 : r2 fIx (.tup [a, b]) (.int 0) = .ok a := r_ixT0 _ _
  have x1 : r2 fIx (.tup [a, b]) (.int 1) = .ok b := r_ixT (k := 1) rfl
  have z : ((rN fLen [.tup [a, b]]).bind fun d67 => (rc2 cEq d67 (D.int 2)).bind fun t68 => (if t68 = true then glR tab2 (.gl c) ((r2 fIx (.tup [a, b]) (D.int 0)).bind fun d79 => (r2 fIx (.tup [a, b]) (D.int 1)).bind fun d80 => (callL tab2 (.gl c) [d79, d80]).bind fun d81 => .ok d81) else glR tab3 (.gl c) ((r2 fIx (.tup [a, b]) (D.int 0)).bind fun d83 => (r2 fIx (.tup [a, b]) (D.int 1)).bind fun d84 => (r2 fIx (.tup [a, b]) (D.int 2)).bind fun d85 => (callL tab3 (.gl c) [d83, d84, d85]).bind fun d86 => .ok d86) : Res D).bind fun d78 => .ok d78) = .ex ⟨1, none⟩ := by
    refine bd_ok (r_len2 _ _) (bd_ok (rc_eq _ _) ?_)
    rw [if_pos (by decide), g, x0, Res.ok_bind, x1, Res.ok_bind, e]
    rfl
  have w : tryR (.ex ⟨1, none⟩ : Res D) (hdR sub [(1, fun _ => (rN fTup [(D.str "malformed"), D.non]).bind fun d93 => .ok d93), (2, fun _ => .stuck)]) = .ok (.tup [.str "malformed", .non]) := rfl
  rw [← w]
  congr 1
  refine bd_ok (r_len2 _ _) (bd_ok (rc_gt _ _) ?_)
  rw [if_neg (by decide)]
  refine bd_ok (r_len2 _ _) (bd_ok (rc_eq _ _) ?_)
  rw [if_neg (by decide)]
  exact bind_ex z
theorem told3 {c : Nat} {a b d : D} {f : List D → FO} (ht : tab3 c = some f) (hf : f [a, b, d] = .ex ⟨1, none⟩) : F__law_told tab1 tab2 tab3 tab4 tab5 (.gl c) (.tup [a, b, d]) = .ok (.tup [.str "malformed", .non]) := by
  unfold F__law_told
  have e : callL tab3 (.gl c) [a, b, d] = .ex ⟨1, none⟩ := by
    rw [callL_of ht, hf]
    rfl
  have g : ∀ {γ : Type} (r : Res γ), glR tab3 (.gl c) r = r := fun r => glR_of ht
  have x0 : r2 fIx (.tup [a, b, d]) (.int 0) = .ok a := r_ixT0 _ _
  have x1 : r2 fIx (.tup [a, b, d]) (.int 1) = .ok b := r_ixT (k := 1) rfl
  have x2 : r2 fIx (.tup [a, b, d]) (.int 2) = .ok d := r_ixT (k := 2) rfl
  have z : ((rN fLen [.tup [a, b, d]]).bind fun d67 => (rc2 cEq d67 (D.int 2)).bind fun t68 => (if t68 = true then glR tab2 (.gl c) ((r2 fIx (.tup [a, b, d]) (D.int 0)).bind fun d79 => (r2 fIx (.tup [a, b, d]) (D.int 1)).bind fun d80 => (callL tab2 (.gl c) [d79, d80]).bind fun d81 => .ok d81) else glR tab3 (.gl c) ((r2 fIx (.tup [a, b, d]) (D.int 0)).bind fun d83 => (r2 fIx (.tup [a, b, d]) (D.int 1)).bind fun d84 => (r2 fIx (.tup [a, b, d]) (D.int 2)).bind fun d85 => (callL tab3 (.gl c) [d83, d84, d85]).bind fun d86 => .ok d86) : Res D).bind fun d78 => .ok d78) = .ex ⟨1, none⟩ := by
    refine bd_ok (r_len3 _ _ _) (bd_ok (rc_eq _ _) ?_)
    rw [if_neg (by decide), g, x0, Res.ok_bind, x1, Res.ok_bind, x2, Res.ok_bind, e]
    rfl
  have w : tryR (.ex ⟨1, none⟩ : Res D) (hdR sub [(1, fun _ => (rN fTup [(D.str "malformed"), D.non]).bind fun d93 => .ok d93), (2, fun _ => .stuck)]) = .ok (.tup [.str "malformed", .non]) := rfl
  rw [← w]
  congr 1
  refine bd_ok (r_len3 _ _ _) (bd_ok (rc_gt _ _) ?_)
  rw [if_neg (by decide)]
  refine bd_ok (r_len3 _ _ _) (bd_ok (rc_eq _ _) ?_)
  rw [if_neg (by decide)]
  exact bind_ex z
/-- a call that is malformed -/
def Mal (d : D) : Prop := ∃ a g, d = .tup [a, g] ∧ F__law_told tab1 tab2 tab3 tab4 tab5 a g = .ok (.tup [.str "malformed", .non])
theorem malf_ok {ds : List D} (h : ∀ d ∈ ds, Mal d) (hl : ds.length ≤ 1000) : F__law_all_malformed tab1 tab2 tab3 tab4 tab5 (.lst ds) = .ok (.bl true) := by
  unfold F__law_all_malformed
  have em : mapR (fun x11 => un2 x11 fun x14 x15 => (F__law_told tab1 tab2 tab3 tab4 tab5 x14 x15).bind fun d18 => (rN fTup [(D.str "malformed"), D.non]).bind fun d20 => (r2 (cmp cEq) d18 d20).bind fun d21 => .ok d21) ds = .ok (ds.map fun _ => D.bl true) := by
    refine mapR_id (fun d hd => ?_) (by omega)
    obtain ⟨a, g, rfl, e⟩ := h d hd
    rw [un2_tup, e, Res.ok_bind, r_tup2, Res.ok_bind, eq_told _ (by decide +kernel)]
    rfl
  refine bd_ok (r_itL _) (bd_ok em (bd_ok (r_all (fun _ => true) ds) ?_))
  have : (ds.all fun _ => true) = true := List.all_eq_true.mpr fun _ _ => rfl
  rw [this]
theorem ex_of {o : FO} {r : Res D} {K : D → RK} {x : Xc} (h : FOk o r K) (e : r = .ex x) : o = .ex x := by
  subst e
  exact h
theorem mal_within {a b c : D} (h : G_is_within 1 a b c = .ex ⟨1, none⟩) : Mal (.tup [.gl 18, .tup [a, b, c]]) := ⟨_, _, rfl, told3 (f := f_is_within) rfl (ex_of (L_is_within a b c) h)⟩
theorem mal_part {a b c : D} (h : G_is_part 1 a b c = .ex ⟨1, none⟩) : Mal (.tup [.gl 20, .tup [a, b, c]]) := ⟨_, _, rfl, told3 (f := f_is_part) rfl (ex_of (L_is_part a b c) h)⟩
theorem mal_free {a b : D} (h : G_free_places 1 a b = .ex ⟨1, none⟩) : Mal (.tup [.gl 23, .tup [a, b]]) := ⟨_, _, rfl, told2 (f := f_free_places) rfl (ex_of (L_free_places a b) h)⟩
theorem mal_beside {a b : D} (h : G_beside 1 a b = .ex ⟨1, none⟩) : Mal (.tup [.gl 24, .tup [a, b]]) := ⟨_, _, rfl, told2 (f := f_beside) rfl (ex_of (L_beside a b) h)⟩
theorem mal_direct {a b : D} (h : G_is_direct 1 a b = .ex ⟨1, none⟩) : Mal (.tup [.gl 25, .tup [a, b]]) := ⟨_, _, rfl, told2 (f := f_is_direct) rfl (ex_of (L_is_direct a b) h)⟩
theorem mal_space {a b : D} (h : G_space_of 1 a b = .ex ⟨1, none⟩) : Mal (.tup [.gl 15, .tup [a, b]]) := ⟨_, _, rfl, told2 (f := f_space_of) rfl (ex_of (L_space_of a b) h)⟩
theorem mal_rank {a b : D} (h : G_rank_of 1 a b = .ex ⟨1, none⟩) : Mal (.tup [.gl 22, .tup [a, b]]) := ⟨_, _, rfl, told2 (f := f_rank_of) rfl (ex_of (L_rank_of a b) h)⟩
end K03

/-! k03: the law, statement by statement. -/
namespace K03
open PySem PySem.Spec PyProof.Rows L2 MM SP
structure Cx (n : Nat) (L M : List SP.Row) : Prop where
  hn : n ≤ 5
  ll : L.length ≤ 5
  lm : M.length ≤ 5
  hL : ∀ r ∈ L, r.length = n ∧ Sml 9 r
  hM : ∀ r ∈ M, r.length = n ∧ Sml 9 r
theorem pw5 {n b : Nat} (hn : n ≤ 5) (hb : b ≤ 159) : 2 ^ n * (b + 1) ≤ 8802 := by
  have : 2 ^ n ≤ 2 ^ 5 := Nat.pow_le_pow_right (by decide) hn
  have : 2 ^ n * (b + 1) ≤ 32 * 160 := Nat.mul_le_mul this (by omega)
  omega
theorem pw5' {n b : Nat} (hn : n ≤ 5) (hb : b ≤ 274) : 2 ^ n * (b + 1) ≤ 8802 := by
  have : 2 ^ n ≤ 2 ^ 5 := Nat.pow_le_pow_right (by decide) hn
  have : 2 ^ n * (b + 1) ≤ 32 * 275 := Nat.mul_le_mul this (by omega)
  omega
theorem rws9 {n : Nat} {L : List SP.Row} (hl : L.length ≤ 1000) (h : ∀ r ∈ L, r.length = n ∧ Sml 9 r) : Rws n 4 L := ⟨hl, fun r hr => ⟨(h r hr).1, (h r hr).2.bd (by decide)⟩⟩
/-- the space of small rows -/
structure Spc (n : Nat) (L S : List SP.Row) : Prop where
  eq : spaceR L n = S
  lst : Lst n L S
  len : S.length ≤ n
  rws : ∃ b, b + 1 = 2 ^ S.length * 5 ∧ Rws n b S
  fix : spaceR S n = S
theorem spc {n : Nat} {L : List SP.Row} (hl : L.length ≤ 1000) (h : ∀ r ∈ L, r.length = n ∧ Sml 9 r) : Spc n L (spaceR L n) := by
  have q := space_lst fun r hr => (h r hr).1
  obtain ⟨b, e, r⟩ := space_bd (rws9 hl h)
  exact ⟨rfl, q, q.red.len_le, ⟨b, e, r⟩, q.fix⟩
theorem Spc.r159 {n : Nat} {L S : List SP.Row} (h : Spc n L S) (hn : n ≤ 5) : Rws n 159 S := by
  obtain ⟨b, e, r⟩ := h.rws
  have : 2 ^ S.length ≤ 2 ^ 5 := Nat.pow_le_pow_right (by decide) (by have := h.len; omega)
  exact r.mono (by have := Nat.mul_le_mul_right 5 this; omega)
theorem Spc.len5 {n : Nat} {L S : List SP.Row} (h : Spc n L S) (hn : n ≤ 5) : S.length ≤ 5 := by have := h.len; omega
section
variable {n : Nat} {L M S T : List SP.Row} {x : SP.Row}
theorem check_S (hn : n ≤ 5) (hS : Spc n L S) : G_check_space 1 (.tup (S.map rw)) (.int (n : Nat)) = .ok .non := check_space_ok (by omega) (hS.r159 hn) (pw5 hn (by decide)) hS.fix
theorem space_from {d a : D} (h : G_check_from 1 a (.int 0) (.int 256) = .ex ⟨1, none⟩) : G_space_of 1 d a = .ex ⟨1, none⟩ := by
  unfold G_space_of G_check_rows
  exact bind_ex (bind_ex h)
theorem rank_from {d a : D} (h : G_check_from 1 a (.int 0) (.int 256) = .ex ⟨1, none⟩) : G_rank_of 1 d a = .ex ⟨1, none⟩ := by
  unfold G_rank_of
  exact bind_ex (space_from h)
theorem within_row {d e : D} (h : G_check_row 1 d (.int (n : Nat)) = .ex ⟨1, none⟩) : G_is_within 1 d e (.int (n : Nat)) = .ex ⟨1, none⟩ := by
  unfold G_is_within
  exact bind_ex h
theorem ones_rw (c : Int) (m : Nat) (hm : m ≤ 1000) : r2 fMul (.tup [.int c]) (.int (m : Nat)) = .ok (rw (List.replicate m c)) := by
  rw [r_rep hm]
  unfold rw
  rw [List.map_replicate]
theorem law16 (hn : n ≤ 5) (hS : Spc n L S) : F_law_16 (.int (n : Nat)) (.tup (S.map rw)) = .ok (.bl true) := by
  unfold F_law_16
  refine bd_ok r_tup0 (bd_ok (r_neg 1) (bd_ok (r_tup2 _ _) (bd_ok (r_tup2 _ _) (bd_ok r_tup0 (bd_ok (r_tup2 _ _) (bd_ok (r_tup2 _ _) (bd_ok r_tup0 (bd_ok (r_tup2 _ _) (bd_ok (r_tup2 _ _) (bd_ok (r_tup1 _) (bd_ok (r_add _ _) ?_)))))))))))
  have e1 : ((n : Nat) : Int) + 1 = ((n + 1 : Nat) : Int) := by omega
  rw [e1]
  refine bd_ok (ones_rw 1 (n + 1) (by omega)) (bd_ok (r_tup3 _ _ _) (bd_ok (r_tup2 _ _) (bd_ok (r_tup3 _ _ _) (bd_ok (r_tup2 _ _) (bd_ok r_tup0 (bd_ok (r_tup2 _ _) (bd_ok (r_tup2 _ _) (bd_ok (r_lstS (by simp)) ?_))))))))
  refine bd_ok (malf_ok (fun d hd => ?_) (by simp)) rfl
  simp only [List.mem_cons, List.not_mem_nil, or_false] at hd
  rcases hd with rfl | rfl | rfl | rfl | rfl | rfl
  · exact mal_space (space_from (check_from_bad (by decide)))
  · exact mal_space (space_from (check_from_bad (by decide)))
  · exact mal_space (space_from (check_from_no rfl rfl))
  · refine mal_within (within_row (check_row_bad (okI_rw (by rw [List.length_replicate]; omega)) ?_))
    rw [isRowD_rw]
    show (true && (((List.replicate (n + 1) 1).map D.int).length == n)) = false
    rw [List.length_map, List.length_replicate]
    simp
  · exact mal_within (within_row (check_row_bad rfl rfl))
  · exact mal_rank (rank_from (check_from_no rfl rfl))
/-- a value that the law bends -/
inductive Bent (n : Nat) (S : List SP.Row) : D → Prop
  | rows (V : List SP.Row) : Rws n 159 V → Bent n S (.tup (V.map rw))
  | list : Bent n S (.lst (S.map rw))
  | no (d : D) : okD d = true → isRowsD d n = false → Bent n S d
theorem bent_sp {d : D} (hn : n ≤ 5) (hS : Spc n L S) (h : Bent n S d) : ∃ p : Bool, (G_is_space 1 d (.int (n : Nat)) = .ok (.bl p)) ∧ ((rN fIsi [d, (D.ty .tuple)]).bind fun d1370 => (andG d1370 (D.bl false) ((F__law_is_space d (.int (n : Nat))).bind fun d1373 => .ok d1373)).bind fun d1375 => .ok d1375) = .ok (.bl p) := by
  cases h with
  | rows V hV =>
    refine ⟨decide (spaceR V n = V), is_space_ok (by omega) hV (pw5 hn (by decide)), ?_⟩
    have e0 : rN fIsi [.tup (V.map rw), .ty .tuple] = .ok (.bl true) := rfl
    refine bd_ok e0 ?_
    rw [andG_t, e_lspace, law_space_ok' hV.2 (by decide) (by omega) hV.1]
    rfl
  | list => exact ⟨false, rfl, rfl⟩
  | no d h1 h2 =>
    refine ⟨false, is_space_bad h1 h2, ?_⟩
    have hp : plainD d = true := by unfold okD at h1; rw [Bool.and_eq_true] at h1; exact h1.1
    cases d with
    | tup xs =>
      have e0 : rN fIsi [.tup xs, .ty .tuple] = .ok (.bl true) := rfl
      refine bd_ok e0 ?_
      rw [andG_t, e_lspace, law_space_bad h1 rfl h2]
      rfl
    | non => rfl
    | bl b => rfl
    | int i => rfl
    | str s => rfl
    | lst xs => rfl
    | _ => cases hp
theorem bent_rows {d : D} (hn : n ≤ 5) (hS : Spc n L S) (h : Bent n S d) : okD d = true ∧ (isRowsD d n = false → ∀ V : List SP.Row, (∀ r ∈ V, r.length = n) → d ≠ .tup (V.map rw) ∧ d ≠ .lst (V.map rw)) := by
  refine ⟨?_, fun hr V hV => ⟨fun e => ?_, fun e => ?_⟩⟩
  · cases h with
    | rows V hV => exact okD_rows rfl (by have := hV.1; omega) fun r hr => by have := (hV.2 r hr).1; omega
    | list => exact okD_rows rfl (by have := hS.len5 hn; omega) fun r hr => by have := hS.lst.red.len r hr; omega
    | no d h1 h2 => exact h1
  · rw [e, isRowsD_rows rfl hV] at hr; cases hr
  · rw [e, isRowsD_rows rfl hV] at hr; cases hr
/-- loose, as the law works it out -/
theorem loose_ok {d : D} (hd : okD d = true) : ((rN fTup [(D.ty .list), (D.ty .tuple)]).bind fun d1412 =>
(rN fIsiA [d, d1412]).bind fun d1413 =>
(andG d1413 (D.bl false) ((rL itS d).bind fun l1564 =>
(mapR (fun x1637 =>
(rN fIsi [x1637, (D.ty .tuple)]).bind fun d1641 =>
(andG d1641 (D.bl false) ((rN fLen [x1637]).bind fun d1675 =>
(r2 (cmp cEq) d1675 (.int (n : Nat))).bind fun d1676 =>
(andG d1676 (D.bl false) ((rL itS x1637).bind fun l1691 =>
(mapR (fun x1696 =>
(F__law_is_whole x1696).bind fun d1700 =>
.ok d1700) l1691).bind fun l1702 =>
(rN fAll [(D.lst l1702)]).bind fun d1704 =>
.ok d1704)).bind fun d1705 =>
.ok d1705)).bind fun d1708 =>
.ok d1708) l1564).bind fun l1711 =>
(rN fAll [(D.lst l1711)]).bind fun d1713 =>
.ok d1713)).bind fun d1714 => .ok d1714) = .ok (.bl (isRowsD d n)) := by
  refine bd_ok (r_tup2 _ _) ?_
  cases hi : itS d with
  | none =>
    have e : isRowsD d n = false := by unfold isRowsD; rw [hi]
    rw [e]
    have hp : plainD d = true := by unfold okD at hd; rw [Bool.and_eq_true] at hd; exact hd.1
    cases d with
    | tup xs => cases hi
    | lst xs => cases hi
    | non => rfl
    | bl b => rfl
    | int i => rfl
    | str s => rfl
    | _ => cases hp
  | some xs =>
    obtain ⟨e1, e2⟩ := lawrows_ok n hd hi
    refine bd_ok (isi_both hi) ?_
    rw [andG_t]
    refine bd_ok (a := .bl (isRowsD d n)) ?_ rfl
    refine bd_ok (rL_of hi) (bd_ok e1 (bd_ok (r_all _ xs) ?_))
    rw [e2]
/-- one value -/
theorem turn15 {d : D} (hn : n ≤ 5) (hS : Spc n L S) (hx : x.length = n) (h : Bent n S d) :
((rN fIsi [d, (D.ty .tuple)]).bind fun d1370 =>
(andG d1370 (D.bl false) ((F__law_is_space d (.int (n : Nat))).bind fun d1373 =>
.ok d1373)).bind fun d1375 =>
(F_is_space d (.int (n : Nat))).bind fun d1379 =>
(F__law_says d1379 d1375).bind fun d1382 =>
(rTru d1382).bind fun t1384 =>
if (!t1384) = true then
.ok (.rt (D.bl false)) else
(rN fTup [rw x, d, (.int (n : Nat))]).bind fun d1385 =>
(rN fTup [(D.gl 18), d1385]).bind fun d1386 =>
(rN fTup [d, .tup (S.map rw), (.int (n : Nat))]).bind fun d1387 =>
(rN fTup [(D.gl 20), d1387]).bind fun d1388 =>
(rN fTup [.tup (S.map rw), d, (.int (n : Nat))]).bind fun d1389 =>
(rN fTup [(D.gl 20), d1389]).bind fun d1390 =>
(rN fTup [d, (.int (n : Nat))]).bind fun d1391 =>
(rN fTup [(D.gl 23), d1391]).bind fun d1392 =>
(rN fTup [d, (.int (n : Nat))]).bind fun d1393 =>
(rN fTup [(D.gl 24), d1393]).bind fun d1394 =>
(rN fTup [.tup (S.map rw), d]).bind fun d1395 =>
(rN fTup [d1395, (.int (n : Nat))]).bind fun d1396 =>
(rN fTup [(D.gl 25), d1396]).bind fun d1397 =>
(rN fLst [d1386, d1388, d1390, d1392, d1394, d1397]).bind fun d1398 =>
(rTru d1375).bind fun t1401 =>
(andB (!t1401) false ((F__law_all_malformed tab1 tab2 tab3 tab4 tab5 d1398).bind fun d1407 =>
(rTru d1407).bind fun t1409 =>
.ok (!t1409))).bind fun t1410 =>
if t1410 = true then
.ok (.rt (D.bl false)) else
(rN fTup [(D.ty .list), (D.ty .tuple)]).bind fun d1412 =>
(rN fIsiA [d, d1412]).bind fun d1413 =>
(andG d1413 (D.bl false) ((rL itS d).bind fun l1564 =>
(mapR (fun x1637 =>
(rN fIsi [x1637, (D.ty .tuple)]).bind fun d1641 =>
(andG d1641 (D.bl false) ((rN fLen [x1637]).bind fun d1675 =>
(r2 (cmp cEq) d1675 (.int (n : Nat))).bind fun d1676 =>
(andG d1676 (D.bl false) ((rL itS x1637).bind fun l1691 =>
(mapR (fun x1696 =>
(F__law_is_whole x1696).bind fun d1700 =>
.ok d1700) l1691).bind fun l1702 =>
(rN fAll [(D.lst l1702)]).bind fun d1704 =>
.ok d1704)).bind fun d1705 =>
.ok d1705)).bind fun d1708 =>
.ok d1708) l1564).bind fun l1711 =>
(rN fAll [(D.lst l1711)]).bind fun d1713 =>
.ok d1713)).bind fun d1714 =>
(F_is_rows d (.int (n : Nat))).bind fun d1718 =>
(F__law_says d1718 d1714).bind fun d1721 =>
(rTru d1721).bind fun t1723 =>
(orB (!t1723) true ((rTru d1714).bind fun t1745 =>
(andB (!t1745) false ((rN fTup [d, (.int (n : Nat))]).bind fun d1755 =>
(rN fTup [(D.gl 15), d1755]).bind fun d1756 =>
(rN fTup [d, (.int (n : Nat))]).bind fun d1757 =>
(rN fTup [(D.gl 22), d1757]).bind fun d1758 =>
(rN fLst [d1756, d1758]).bind fun d1759 =>
(F__law_all_malformed tab1 tab2 tab3 tab4 tab5 d1759).bind fun d1761 =>
(rTru d1761).bind fun t1763 =>
.ok (!t1763))).bind fun t1764 =>
.ok t1764)).bind fun t1766 =>
if t1766 = true then
.ok (.rt (D.bl false)) else
.ok (.nx ()) : Res (Fw Unit D)) = .ok (if false = true then .rt (.bl false) else .nx ()) := by
  obtain ⟨p, sp1, sp2⟩ := bent_sp hn hS h
  obtain ⟨hok, _⟩ := bent_rows hn hS h
  have split1 : ∀ {γ : Type} (k : D → Res γ), ((rN fIsi [d, (D.ty .tuple)]).bind fun d1370 => (andG d1370 (D.bl false) ((F__law_is_space d (.int (n : Nat))).bind fun d1373 => .ok d1373)).bind k) = k (.bl p) := fun k => by
    have := congrArg (fun r => Res.bind r k) sp2
    rw [Res.bind_assoc] at this
    refine Eq.trans ?_ this
    congr 1
    funext d1370
    rw [Res.bind_assoc]
    rfl
  rw [split1, e_isspace, sp1, Res.ok_bind, e_says, says_ok, Res.ok_bind, r_trub, Res.ok_bind]
  rw [if_neg (by decide)]
  refine bd_ok (r_tup3 _ _ _) (bd_ok (r_tup2 _ _) (bd_ok (r_tup3 _ _ _) (bd_ok (r_tup2 _ _) (bd_ok (r_tup3 _ _ _) (bd_ok (r_tup2 _ _) (bd_ok (r_tup2 _ _) (bd_ok (r_tup2 _ _) (bd_ok (r_tup2 _ _) (bd_ok (r_tup2 _ _) (bd_ok (r_tup2 _ _) (bd_ok (r_tup2 _ _) (bd_ok (r_tup2 _ _) (bd_ok (r_lstS (by simp)) (bd_ok (r_trub _) ?_))))))))))))))
  have m6 : andB (!p) false ((F__law_all_malformed tab1 tab2 tab3 tab4 tab5 (.lst [.tup [.gl 18, .tup [rw x, d, .int (n : Nat)]], .tup [.gl 20, .tup [d, .tup (S.map rw), .int (n : Nat)]], .tup [.gl 20, .tup [.tup (S.map rw), d, .int (n : Nat)]], .tup [.gl 23, .tup [d, .int (n : Nat)]], .tup [.gl 24, .tup [d, .int (n : Nat)]], .tup [.gl 25, .tup [.tup [.tup (S.map rw), d], .int (n : Nat)]]])).bind fun d1407 => (rTru d1407).bind fun t1409 => .ok (!t1409)) = .ok false := by
    cases hp : p with
    | true => rfl
    | false =>
      have ns : notSp 1 d n := by unfold notSp; rw [sp1, hp]
      have hn2 : n ≤ 256 := by omega
      rw [show (!false) = true from rfl, andB_t]
      refine bd_ok (malf_ok (fun e he => ?_) (by simp)) rfl
      simp only [List.mem_cons, List.not_mem_nil, or_false] at he
      rcases he with rfl | rfl | rfl | rfl | rfl | rfl
      · exact mal_within (within_bad hn2 hx ns)
      · exact mal_part (part_bad1 hn2 ns)
      · exact mal_part (part_bad2 hn2 (check_S hn hS) ns)
      · exact mal_free (free_bad hn2 ns)
      · exact mal_beside (beside_bad hn2 ns)
      · exact mal_direct (direct_bad hn2 (by have := hS.len5 hn; omega) (check_S hn hS) ns)
  refine bd_ok m6 ?_
  rw [if_neg Bool.false_ne_true]
  have split2 : ∀ {γ : Type} (k : D → Res γ), ((rN fTup [(D.ty .list), (D.ty .tuple)]).bind fun d1412 =>
(rN fIsiA [d, d1412]).bind fun d1413 =>
(andG d1413 (D.bl false) ((rL itS d).bind fun l1564 =>
(mapR (fun x1637 =>
(rN fIsi [x1637, (D.ty .tuple)]).bind fun d1641 =>
(andG d1641 (D.bl false) ((rN fLen [x1637]).bind fun d1675 =>
(r2 (cmp cEq) d1675 (.int (n : Nat))).bind fun d1676 =>
(andG d1676 (D.bl false) ((rL itS x1637).bind fun l1691 =>
(mapR (fun x1696 =>
(F__law_is_whole x1696).bind fun d1700 =>
.ok d1700) l1691).bind fun l1702 =>
(rN fAll [(D.lst l1702)]).bind fun d1704 =>
.ok d1704)).bind fun d1705 =>
.ok d1705)).bind fun d1708 =>
.ok d1708) l1564).bind fun l1711 =>
(rN fAll [(D.lst l1711)]).bind fun d1713 =>
.ok d1713)).bind k) = k (.bl (isRowsD d n)) := fun k => by
    have := congrArg (fun r => Res.bind r k) (loose_ok (n := n) hok)
    rw [Res.bind_assoc] at this
    refine Eq.trans ?_ this
    congr 1
    funext d1412
    rw [Res.bind_assoc]
    congr 1
    funext d1413
    rw [Res.bind_assoc]
    rfl
  rw [split2, e_isrows, is_rows_ok d n hok, Res.ok_bind, e_says, says_ok, Res.ok_bind, r_trub, Res.ok_bind]
  have m2 : orB (!true) true ((rTru (.bl (isRowsD d n))).bind fun t1745 =>
(andB (!t1745) false ((rN fTup [d, (.int (n : Nat))]).bind fun d1755 =>
(rN fTup [(D.gl 15), d1755]).bind fun d1756 =>
(rN fTup [d, (.int (n : Nat))]).bind fun d1757 =>
(rN fTup [(D.gl 22), d1757]).bind fun d1758 =>
(rN fLst [d1756, d1758]).bind fun d1759 =>
(F__law_all_malformed tab1 tab2 tab3 tab4 tab5 d1759).bind fun d1761 =>
(rTru d1761).bind fun t1763 =>
.ok (!t1763))).bind fun t1764 =>
.ok t1764) = .ok false := by
    rw [show (!true) = false from rfl, orB_f]
    refine bd_ok (r_trub _) ?_
    cases hr : isRowsD d n with
    | true => rfl
    | false =>
      rw [show (!false) = true from rfl, andB_t]
      refine bd_ok (a := false) ?_ rfl
      refine bd_ok (r_tup2 _ _) (bd_ok (r_tup2 _ _) (bd_ok (r_tup2 _ _) (bd_ok (r_tup2 _ _) (bd_ok (r_lst2 _ _) ?_))))
      refine bd_ok (malf_ok (fun e he => ?_) (by simp)) rfl
      simp only [List.mem_cons, List.not_mem_nil, or_false] at he
      rcases he with rfl | rfl
      · exact mal_space (space_bad (by omega) hok hr)
      · exact mal_rank (rank_bad (by omega) hok hr)
  refine bd_ok m2 ?_
  rw [if_neg Bool.false_ne_true, if_neg Bool.false_ne_true]
end
end K03

/-! k03: the law, from its end to its head. -/
namespace K03
open PySem PySem.Spec PyProof.Rows L2 MM SP
section
variable {n : Nat} {L M S T : List SP.Row} {x : SP.Row}
theorem bent_rep (m : Nat) (c : Int) (hc : c.natAbs ≤ 9) : Sml 9 (List.replicate m c) := fun y hy => by rw [List.eq_of_mem_replicate hy]; exact hc
theorem bent_sml {V : List SP.Row} (hl : V.length ≤ 1000) (h : ∀ r ∈ V, r.length = n ∧ Sml 9 r) : Bent n S (.tup (V.map rw)) := .rows V ((rws9 hl h).mono (by decide))
theorem bent_bits (b : Bool) (hn : n ≤ 5) : ∃ e, r2 fMul (.tup [.bl b]) (.int (n : Nat)) = .ok e ∧ Bent n S (.tup [e]) := by
  refine ⟨_, r_rep (by omega), ?_⟩
  cases n with
  | zero => exact bent_sml (V := [[]]) (by simp) fun r hr => by rw [List.mem_singleton.mp hr]; exact ⟨rfl, fun c hc => absurd hc (by simp)⟩
  | succ m =>
    refine .no _ ?_ ?_
    · show (true && (decide ([D.tup (List.replicate (m + 1) (.bl b))].length ≤ 1000000) && [D.tup (List.replicate (m + 1) (D.bl b))].all okI)) = true
      rw [Bool.true_and, Bool.and_eq_true]
      refine ⟨rfl, List.all_eq_true.mpr fun y hy => ?_⟩
      rw [List.mem_singleton.mp hy]
      show (true && (decide ((List.replicate (m + 1) (D.bl b)).length ≤ 1000000) && (List.replicate (m + 1) (D.bl b)).all plainD)) = true
      rw [Bool.true_and, Bool.and_eq_true, List.length_replicate]
      exact ⟨decide_eq_true (by omega), List.all_eq_true.mpr fun z hz => by rw [List.eq_of_mem_replicate hz]; rfl⟩
    · rfl
/-- ((c,) + (0,) * (n - 1),) -/
theorem bent_first (c : Int) (hc : c.natAbs ≤ 9) (hn : n ≤ 5) : ∃ e f, r2 fMul (.tup [.int 0]) (.int ((n : Nat) - 1 : Int)) = .ok e ∧ r2 fAdd (.tup [.int c]) e = .ok f ∧ Bent n S (.tup [f]) := by
  cases n with
  | zero =>
    refine ⟨.tup [], .tup [.int c], rfl, by rw [r_catT (xs := [_]) (ys := []) (sz (by simp))]; rfl, .no _ rfl rfl⟩
  | succ m =>
    refine ⟨rw (List.replicate m 0), rw (c :: List.replicate m 0), ?_, ?_, ?_⟩
    · rw [show (((m + 1 : Nat) : Int) - 1) = ((m : Nat) : Int) by omega]
      exact zero_rw (by omega)
    · show r2 fAdd (.tup [.int c]) (.tup ((List.replicate m 0).map D.int)) = _
      rw [r_catT (sz (by rw [List.length_map, List.length_replicate, List.length_singleton]; omega))]
      rfl
    · refine bent_sml (V := [c :: List.replicate m 0]) (by simp) fun r hr => ?_
      rw [List.mem_singleton.mp hr]
      refine ⟨by rw [List.length_cons, List.length_replicate], fun y hy => ?_⟩
      rcases List.mem_cons.mp hy with rfl | hy
      · exact hc
      · exact bent_rep m 0 (by decide) y hy
theorem law15 (hn : n ≤ 5) (hl : L.length ≤ 5) (hL : ∀ r ∈ L, r.length = n ∧ Sml 9 r) (hS : Spc n L S) (hT : Spc n M T) (hx : x.length = n) :
    F_law_15 (.int (n : Nat)) (rwl L) (.tup (S.map rw)) (.tup (T.map rw)) (rw x) (.tup ((S ++ [List.replicate n 0]).map rw)) = .ok (.bl true) := by
  unfold F_law_15
  obtain ⟨eb, b1, b2⟩ := bent_bits (S := S) true hn
  obtain ⟨f1, f2, f3, f4, f5⟩ := bent_first (n := n) (S := S) 2 (by decide) hn
  obtain ⟨g1, g2, g3, g4, g5⟩ := bent_first (n := n) (S := S) (-1) (by decide) hn
  have rs := hS.r159 hn
  have rv : revR (.tup (S.map rw)) = .ok (.tup (S.reverse.map rw)) := by
    show Res.ok (D.tup (S.map rw).reverse) = _
    rw [List.map_reverse]
  refine bd_ok (r_tupL _) (bd_ok rv (bd_ok (r_itT _) (bd_ok (mapR_eq (g := rw) (fun _ _ => rfl) (by have := rs.1; omega)) (bd_ok (r_tup1 _) (bd_ok (ones_rw 1 n (by omega)) (bd_ok (r_tup1 _) (bd_ok (ones_rw 2 n (by omega)) (bd_ok (r_tup2 _ _) (bd_ok (r_tup1 _) (bd_ok b1 (bd_ok (r_tup1 _) (bd_ok (r_tup1 _) (bd_ok (r_tup1 _) (bd_ok (r_tup1 _) (bd_ok (r_subi _ _) (bd_ok f3 (bd_ok f4 (bd_ok (r_tup1 _) (bd_ok (r_neg 1) (bd_ok (r_tup1 _) (bd_ok (r_tup1 _) (bd_ok (r_subi _ _) (bd_ok g3 (bd_ok g4 (bd_ok (r_tup1 _) (bd_ok (r_lstS (by simp)) (bd_ok (r_itL _) ?_)))))))))))))))))))))))))))
  refine bd_nx (s := ()) ?_ (law16 hn hS)
  have key : ∀ d ∈ [.tup (S.map rw), .tup (T.map rw), .tup (L.map rw), .tup ((S ++ [List.replicate n 0]).map rw), .tup (S.reverse.map rw), .lst (S.map rw), D.non, D.int 5, .tup [rw (List.replicate n 1), rw (List.replicate n 2)], .tup [eb], D.str "a", .tup [D.non], .tup [f2], .tup [g2]], Bent n S d := fun d hd => by
    simp only [List.mem_cons, List.not_mem_nil, or_false] at hd
    rcases hd with rfl | rfl | rfl | rfl | rfl | rfl | rfl | rfl | rfl | rfl | rfl | rfl | rfl | rfl
    · exact .rows S rs
    · exact .rows T (hT.r159 hn)
    · exact bent_sml (by omega) hL
    · refine .rows _ ⟨by rw [List.length_append, List.length_singleton]; have := hS.len5 hn; omega, fun r hr => ?_⟩
      rcases List.mem_append.mp hr with hr | hr
      · exact rs.2 r hr
      · rw [List.mem_singleton.mp hr]
        exact ⟨List.length_replicate, ((bent_rep n 0 (by decide)).bd (b := 159) (Nat.lt_of_lt_of_le (show 9 < 2 ^ 4 by decide) (Nat.pow_le_pow_right (by decide) (by decide))))⟩
    · exact .rows _ ⟨by rw [List.length_reverse]; exact rs.1, fun r hr => rs.2 r (List.mem_reverse.mp hr)⟩
    · exact .list
    · exact .no _ rfl rfl
    · exact .no _ rfl rfl
    · refine bent_sml (V := [List.replicate n 1, List.replicate n 2]) (by simp) fun r hr => ?_
      rcases List.mem_cons.mp hr with rfl | hr
      · exact ⟨List.length_replicate, bent_rep n 1 (by decide)⟩
      · rw [List.mem_singleton.mp hr]
        exact ⟨List.length_replicate, bent_rep n 2 (by decide)⟩
    · exact b2
    · exact .no _ rfl rfl
    · exact .no _ rfl rfl
    · exact f5
    · exact g5
  exact search_id (v := D.bl false) fun d hd => turn15 hn hS hx (key d hd)
theorem law14 (hn : n ≤ 5) (hl : L.length ≤ 5) (hL : ∀ r ∈ L, r.length = n ∧ Sml 9 r) (hS : Spc n L S) (hT : Spc n M T) (hx : x.length = n) :
    F_law_14 (.int (n : Nat)) (rwl L) (.tup (S.map rw)) (.tup (T.map rw)) (rw x) = .ok (.bl true) := by
  unfold F_law_14
  refine bd_ok (r_tup1 _) (bd_ok (zero_rw (by omega)) (bd_ok (r_tup1 _) (bd_ok (r_catT (sz (by rw [List.length_map, List.length_singleton]; have := hS.len5 hn; omega))) ?_)))
  have := law15 hn hl hL hS hT hx
  rw [List.map_append] at this
  exact this
/-- a chain of refusals -/
theorem or2 {a : Bool} {r : Res Bool} (ha : a = true) (hr : r = .ok false) : orB (!a) true r = .ok false := by rw [ha, hr]; rfl
theorem law13 (hn : n ≤ 5) (hl : L.length ≤ 5) (hL : ∀ r ∈ L, r.length = n ∧ Sml 9 r) (hS : Spc n L S) (hT : Spc n M T) (hx : x.length = n) :
    F_law_13 (.int (n : Nat)) (rwl L) (.tup (S.map rw)) (.tup (T.map rw)) (rw x) = .ok (.bl true) := by
  unfold F_law_13
  have l1 := hS.len5 hn
  have l2 := hT.len5 hn
  have hST : Rws n 159 (S ++ T) := ⟨by rw [List.length_append]; omega, fun r hr => by
    rcases List.mem_append.mp hr with hr | hr
    · exact (hS.r159 hn).2 r hr
    · exact (hT.r159 hn).2 r hr⟩
  have d1 := is_direct_ok (mf := 1) (by omega) (hS.r159 hn) (hT.r159 hn) (by omega) (pw5 hn (by decide)) hS.fix hT.fix
  have hl2 : ∀ r ∈ S ++ T, r.length = n := fun r hr => (hST.2 r hr).1
  have bb := beside_bd (S := S) (n := n) (by omega)
  have fl := free_len hS.lst.red
  have d2 := is_direct_ok (mf := 1) (by omega) (hS.r159 hn) (bb.mono (b' := 159) (by decide)) (by omega) (pw5 hn (by decide)) hS.fix (beside_fix S n)
  rw [decide_eq_true (beside_rank hS.lst.red)] at d2
  have e1 : r2 fAdd (.lst (S.map rw)) (.lst (T.map rw)) = .ok (.lst ((S ++ T).map rw)) := by
    rw [r_catL (sz (by rw [List.length_map, List.length_map]; omega)), List.map_append]
  have ln : ∀ V : List SP.Row, rN fLen [.tup (V.map rw)] = .ok (.int (V.length : Nat)) := fun V => by rw [r_lenT, List.length_map]
  refine bd_ok (r_tup2 _ _) (bd_ok ((e_direct _ _).trans d1) (bd_ok (r_lstT _) (bd_ok (r_lstT _) (bd_ok e1 (bd_ok ((e_lrank _ _).trans (lrank_ok (by omega) rfl hST (pw5 hn (by decide)))) (bd_ok (ln S) (bd_ok (ln T) (bd_ok (r_add _ _) (bd_ok (r_eqv _ _) ?_)))))))))
  have q : decide (((leastR (S ++ T) n).length : Int) = (S.length : Nat) + (T.length : Nat)) = decide ((spaceR (S ++ T) n).length = S.length + T.length) := by
    rw [space_least hl2]
    exact decide_eq_decide.mpr (by omega)
  rw [q]
  refine bd_ok (says_ok _) (bd_ok (r_trub _) (bd_ok (a := false) (or2 rfl ?_) ?_))
  · refine bd_ok ((e_beside _ _).trans (beside_ok (by omega) (hS.r159 hn) (pw5 hn (by decide)) hS.fix)) (bd_ok (r_tup2 _ _) (bd_ok ((e_direct _ _).trans d2) (bd_ok (says_ok true) rfl)))
  · rw [if_neg Bool.false_ne_true]
    exact law14 hn hl hL hS hT hx
theorem law12 (hn : n ≤ 5) (hl : L.length ≤ 5) (hL : ∀ r ∈ L, r.length = n ∧ Sml 9 r) (hS : Spc n L S) (hT : Spc n M T) (hx : x.length = n) :
    F_law_12 (.int (n : Nat)) (rwl L) (.tup (S.map rw)) (.tup (T.map rw)) (rw x) (.lst ((freeR S n).map fun (k : Nat) => D.int (k : Nat))) = .ok (.bl true) := by
  unfold F_law_12
  have fle : (freeR S n).length ≤ 1000 := Nat.le_trans (List.length_filter_le _ _) (by rw [List.length_range]; omega)
  have s1 : F__law_same 11 (.tup ((freeR S n).map fun (k : Nat) => D.int (k : Nat))) (.lst ((freeR S n).map fun (k : Nat) => D.int (k : Nat))) = .ok (.bl true) := by
    rw [e_same]
    exact same_lst (same_tup (by rw [List.length_map]; omega) fun d hd => by
      obtain ⟨k, _, rfl⟩ := List.mem_map.mp hd
      exact same_int 8 _)
  have s2 : F__law_same 11 (.tup ((besideR S n).map rw)) (.lst ((besideR S n).map rw)) = .ok (.bl true) := by
    rw [e_same]
    exact same_lst (same_rows 7 (by have := (beside_bd (S := S) (n := n) (by omega)).1; omega) fun r hr => by have := ((beside_bd (S := S) (n := n) (by omega)).2 r hr).1; omega)
  have s3 : F__law_same 11 (.tup ((unitR n).map rw)) (.tup ((unitR n).map rw)) = .ok (.bl true) := by
    rw [e_same]
    exact same_rows 8 (by have := (unit_bd n (by omega)).1; omega) fun r hr => by have := ((unit_bd n (by omega)).2 r hr).1; omega
  have em : mapR (fun x851 => (F__law_unit (.int (n : Nat))).bind fun d855 => (r2 fIx d855 x851).bind fun d857 => .ok d857) ((freeR S n).map fun (k : Nat) => D.int (k : Nat)) = .ok ((besideR S n).map rw) := by
    unfold besideR
    rw [List.map_map]
    refine mapR_eq (g := fun k => rw (unitRow n k)) (fun k hk => ?_) (by omega)
    rw [e_unit, (unit_table_ok (by omega)).2, Res.ok_bind, unit_ix (free_lt hk)]
    rfl
  refine bd_ok ((e_free _ _).trans (free_ok (by omega) (hS.r159 hn) (pw5 hn (by decide)) hS.fix)) (bd_ok s1 (bd_ok (r_trub _) (bd_ok (a := false) (or2 rfl ?_) ?_)))
  · refine bd_ok ((e_beside _ _).trans (beside_ok (by omega) (hS.r159 hn) (pw5 hn (by decide)) hS.fix)) (bd_ok (r_itL _) (bd_ok em (bd_ok s2 (bd_ok (r_trub _) (bd_ok (a := false) (or2 rfl ?_) rfl)))))
    exact bd_ok ((e_whole _).trans (whole_ok (by omega))) (bd_ok ((e_unit _).trans (unit_table_ok (by omega)).2) (bd_ok s3 rfl))
  · rw [if_neg Bool.false_ne_true]
    exact law13 hn hl hL hS hT hx
theorem law10 (hn : n ≤ 5) (hl : L.length ≤ 5) (hL : ∀ r ∈ L, r.length = n ∧ Sml 9 r) (hS : Spc n L S) (hT : Spc n M T) (hx : x.length = n) :
    F_law_10 (.int (n : Nat)) (rwl L) (.tup (S.map rw)) (.tup (T.map rw)) (rw x) = .ok (.bl true) := by
  unfold F_law_10
  refine bd_ok (r_itT _) (bd_ok (mapR_eq (g := fun r => D.int (leadR r : Nat)) (fun r hr => by
    rw [e_llead, llead_ok (by have := hS.lst.red.len r hr; omega)]
    rfl) (by have := hS.len5 hn; omega)) ?_)
  unfold F_law_11
  refine bd_ok (rg1_ok (by omega)) (bd_ok (free_comp (by omega)) ?_)
  exact law12 hn hl hL hS hT hx
theorem within_b {V : List SP.Row} {y : SP.Row} {d : D} {b : Nat} (hn : n ≤ 5) (hd : itS d = some (V.map rw)) (hb : b ≤ 274) (hV : Rws n b V) (hy : y.length = n ∧ Bd b y) (hl : V.length ≤ 999) : ∃ w, F__law_within (rw y) d (.int (n : Nat)) = .ok (.bl w) ∧ (w = true ↔ Sp n V y) := by
  rw [e_lwithin]
  exact within_ok (by omega) hd hV hy hl (pw5' hn hb)
theorem bool_eq {a b : Bool} {P : Prop} (ha : a = true ↔ P) (hb : b = true ↔ P) : a = b := by
  cases a <;> cases b <;> simp_all
theorem withins {V W : List SP.Row} {d : D} {b : Nat} (hn : n ≤ 5) (hd : itS d = some (V.map rw)) (hb : b ≤ 274) (hV : Rws n b V) (hW : Rws n b W) (hl : V.length ≤ 999) : ∃ w : SP.Row → Bool, mapR (fun x739 => (F__law_within x739 d (.int (n : Nat))).bind fun d743 => .ok d743) (W.map rw) = .ok (W.map fun y => D.bl (w y)) ∧ ∀ y ∈ W, (w y = true ↔ Sp n V y) := by
  refine ⟨fun y => decide ((leastR (V ++ [y]) n).length = (leastR V n).length), ?_, fun y hy => by rw [decide_eq_true_eq]; exact rank_within (fun r hr => (hV.2 r hr).1) (hW.2 y hy).1⟩
  refine mapR_eq (fun y hy => ?_) (by have := hW.1; omega)
  obtain ⟨w, e, q⟩ := within_b hn hd hb hV (hW.2 y hy) hl
  rw [e, Res.ok_bind]
  congr 2
  exact bool_eq q (by rw [decide_eq_true_eq]; exact rank_within (fun r hr => (hV.2 r hr).1) (hW.2 y hy).1)
theorem law9 (hn : n ≤ 5) (hl : L.length ≤ 5) (hL : ∀ r ∈ L, r.length = n ∧ Sml 9 r) (hm : M.length ≤ 5) (hM : ∀ r ∈ M, r.length = n ∧ Sml 9 r) (hS : Spc n L S) (hT : Spc n M T) (hx : x.length = n) :
    F_law_9 (.int (n : Nat)) (rwl L) (rwl M) (.tup (S.map rw)) (.tup (T.map rw)) (rw x) = .ok (.bl true) := by
  unfold F_law_9
  have l1 := hS.len5 hn
  have l2 := hT.len5 hn
  obtain ⟨p, e1, q1⟩ := is_part_ok (mf := 1) (by omega) (hS.r159 hn) (hT.r159 hn) (pw5 hn (by decide)) hS.fix hT.fix (by have := Nat.mul_le_mul_right (159 + 1) (show T.length + 1 ≤ 6 by omega); omega)
  have ub := (unit_bd n (by omega)).mono (b' := 159) (by decide)
  have ul : (unitR n).length ≤ 5 := by unfold unitR; rw [List.length_map, List.length_range]; omega
  obtain ⟨p2, e2, q2⟩ := is_part_ok (mf := 1) (by omega) (hS.r159 hn) ub (pw5 hn (by decide)) hS.fix (unit_fix n) (by have := Nat.mul_le_mul_right (159 + 1) (show (unitR n).length + 1 ≤ 6 by omega); omega)
  have hp2 : p2 = true := q2.mpr fun r hr => all_span (hS.lst.red.len r hr)
  subst hp2
  obtain ⟨w, e3, q3⟩ := withins (V := M) (W := S) (d := rwl M) hn rfl (by decide) ((rws9 (by omega) hM).mono (b' := 159) (by decide)) (hS.r159 hn) (by omega)
  have hp : p = S.all w := bool_eq q1 (all_iff fun y hy => (q3 y hy).trans ⟨fun h => (hT.lst.span y).mpr h, fun h => (hT.lst.span y).mp h⟩)
  refine bd_ok ((e_part _ _ _).trans e1) (bd_ok (r_itT _) (bd_ok e3 (bd_ok (r_all w S) ?_)))
  rw [← hp]
  refine bd_ok (says_ok p) (bd_ok (r_trub _) (bd_ok (a := false) (or2 rfl ?_) ?_))
  · exact bd_ok ((e_whole _).trans (whole_ok (by omega))) (bd_ok ((e_part _ _ _).trans e2) (bd_ok (says_ok true) rfl))
  · rw [if_neg Bool.false_ne_true]
    exact law10 hn hl hL hS hT hx
/-- what is left of a row: few bits -/
theorem rest_small (hn : n ≤ 5) (hS : Spc n L S) {y : SP.Row} (hy : y.length = n ∧ Sml 9 y) : Bd 124 (restR y S) := by
  have q := hS.lst.red.rest hy.1
  obtain ⟨b, e, r⟩ := hS.rws
  by_cases h3 : S.length ≤ 3
  · have : 2 ^ S.length ≤ 2 ^ 3 := Nat.pow_le_pow_right (by decide) h3
    have hb : b ≤ 39 := by have := Nat.mul_le_mul_right 5 this; omega
    have := rest_bd (n := n) (p := 39) S y 4 (fun l hl => (r.2 l hl).2.mono hb) (hy.2.bd (by decide))
    exact this.mono (by omega)
  · by_cases hz : leadR (restR y S) < n
    · -- one free place
      have hl := hS.len
      have key : ∀ j < n, j ≠ leadR (restR y S) → at0 (restR y S) j = 0 := fun j hj hne => by
        refine Classical.byContradiction fun h0 => ?_
        have a1 : j ∉ S.map leadR := fun hm => by
          obtain ⟨t, ht, rfl⟩ := List.mem_map.mp hm
          exact h0 (q.off t ht)
        have a2 : leadR (restR y S) ∉ S.map leadR := fun hm => by
          obtain ⟨t, ht, e2⟩ := List.mem_map.mp hm
          have := q.off t ht
          rw [e2] at this
          exact lead_nz (by rw [q.len]; exact hz) this
        have f1 : j ∈ freeR S n := List.mem_filter.mpr ⟨List.mem_range.mpr hj, decide_eq_true a1⟩
        have f2 : leadR (restR y S) ∈ freeR S n := List.mem_filter.mpr ⟨List.mem_range.mpr hz, decide_eq_true a2⟩
        have fl := free_len hS.lst.red
        unfold besideR at fl
        rw [List.length_map] at fl
        match hF : freeR S n, fl, f1, f2 with
        | [], _, f1, _ => exact absurd f1 (by simp)
        | [z], _, f1, f2 =>
          rw [List.mem_singleton] at f1 f2
          exact hne (by rw [f1, f2])
        | z :: z2 :: rest, fl, _, _ =>
          rw [List.length_cons, List.length_cons] at fl
          omega
      intro c hc
      obtain ⟨k, hk, rfl⟩ := List.getElem_of_mem hc
      have hk2 : k < n := by rw [← q.len]; exact hk
      have ek : (restR y S)[k] = at0 (restR y S) k := by
        unfold at0
        rw [List.getD_eq_getElem?_getD, List.getElem?_eq_getElem hk]
        rfl
      rw [ek]
      by_cases hkl : k = leadR (restR y S)
      · have bb := rest_bd (n := n) (p := 159) S y 4 (fun l hl => ((hS.r159 hn).2 l hl).2) (hy.2.bd (by decide))
        -- either y itself or slim with one item
        have hsl : restR y S = y ∨ slimR (restR y S) = restR y S := by
          clear key bb ek
          have gen : ∀ (V : List SP.Row) (z : SP.Row), restR z V = z ∨ slimR (restR z V) = restR z V := fun V => by
            induction V with
            | nil => intro z; exact .inl rfl
            | cons v V ih =>
              intro z
              have e : restR z (v :: V) = restR (clearR z v (leadR v)) V := rfl
              rw [e]
              rcases ih (clearR z v (leadR v)) with h | h
              · rw [h]
                unfold clearR
                split
                · exact .inl rfl
                · exact .inr (slim_idem _)
              · exact .inr h
          exact gen S y
        rcases hsl with h | h
        · rw [h]
          exact Nat.lt_of_le_of_lt (at0_sml hy.2 k) (Nat.lt_of_lt_of_le (show 9 < 2 ^ 4 by decide) (Nat.pow_le_pow_right (by decide) (by decide)))
        · obtain ⟨g1, g2⟩ := slim_norm h (by rw [q.len]; exact hz)
          have : (at0 (restR y S) k).natAbs ∣ gcdR (restR y S) := gcdR_great _ _ fun c2 hc2 => by
            obtain ⟨m, hm, rfl⟩ := List.getElem_of_mem hc2
            have em : (restR y S)[m] = at0 (restR y S) m := by
              unfold at0
              rw [List.getD_eq_getElem?_getD, List.getElem?_eq_getElem hm]
              rfl
            rw [em]
            by_cases hmk : m = k
            · rw [hmk]; exact Nat.dvd_refl _
            · rw [key m (by rw [← q.len]; exact hm) (by omega)]
              exact Nat.dvd_zero _
          rw [g1] at this
          have := Nat.le_of_dvd (by decide) this
          exact Nat.lt_of_le_of_lt this (Nat.one_lt_two_pow (by decide))
      · rw [key k hk2 hkl]
        exact Nat.two_pow_pos _
    · rw [zero_of_lead q.len hz]
      intro c hc
      rw [List.eq_of_mem_replicate hc]
      exact Nat.two_pow_pos _
theorem same_r (y : SP.Row) (hy : y.length = n) (hn : n ≤ 5) : F__law_same 11 (rw y) (rw y) = .ok (.bl true) := by
  rw [e_same]
  exact same_rw 9 (by omega)
theorem r_ne_b (a b : Bool) : rc2 cNe (.bl a) (.bl b) = .ok (a != b) := by cases a <;> cases b <;> rfl
/-- one row of the law's walk -/
theorem turn8 (hn : n ≤ 5) (hl : L.length ≤ 5) (hL : ∀ r ∈ L, r.length = n ∧ Sml 9 r) (hS : Spc n L S) {y : SP.Row} (hy : y.length = n ∧ Sml 9 y) :
((F__law_within (rw y) (rwl L) (.int (n : Nat))).bind fun d516 =>
(F_is_within (rw y) (.tup (S.map rw)) (.int (n : Nat))).bind fun d519 =>
(F__law_says d519 d516).bind fun d522 =>
(rTru d522).bind fun t524 =>
(orB (!t524) true ((F_slim (rw y)).bind fun d548 =>
(F__law_slim (rw y)).bind fun d550 =>
(F__law_same 11 d548 d550).bind fun d552 =>
(rTru d552).bind fun t554 =>
(orB (!t554) true ((F_lead_of (rw y)).bind fun d562 =>
(F__law_lead (rw y)).bind fun d564 =>
(F__law_same 11 d562 d564).bind fun d566 =>
(rTru d566).bind fun t568 =>
.ok (!t568))).bind fun t569 =>
.ok t569)).bind fun t571 =>
if t571 = true then
.ok (.rt (D.bl false)) else
(F_rest_of (rw y) (.tup (S.map rw))).bind fun d573 =>
(rN fIsi [d573, (D.ty .tuple)]).bind fun d577 =>
(rTru d577).bind fun t578 =>
(orB (!t578) true ((rN fLen [d573]).bind fun d641 =>
(rc2 cNe d641 (.int (n : Nat))).bind fun t642 =>
(orB t642 true ((rL itS (.tup (S.map rw))).bind fun l672 =>
(mapR (fun x679 =>
(F__law_lead x679).bind fun d683 =>
(r2 fIx d573 d683).bind fun d685 =>
(r2 (cmp cEq) d685 (D.int 0)).bind fun d686 =>
.ok d686) l672).bind fun l687 =>
(rN fAll [(D.lst l687)]).bind fun d689 =>
(rTru d689).bind fun t690 =>
(orB (!t690) true ((rN fTup [(D.int 0)]).bind fun d695 =>
(r2 fMul d695 (.int (n : Nat))).bind fun d696 =>
(r2 (cmp cEq) d573 d696).bind fun d697 =>
(rc2 cNe d697 d516).bind fun t698 =>
.ok t698)).bind fun t699 =>
.ok t699)).bind fun t701 =>
.ok t701)).bind fun t703 =>
if t703 = true then
.ok (.rt (D.bl false)) else
(rN fLst [rw y]).bind fun d705 =>
(r2 fAdd (rwl L) d705).bind fun d707 =>
(F__law_within d573 d707 (.int (n : Nat))).bind fun d709 =>
(rTru d709).bind fun t711 =>
(orB (!t711) true ((rN fLst [d573]).bind fun d719 =>
(r2 fAdd (rwl L) d719).bind fun d721 =>
(F__law_within (rw y) d721 (.int (n : Nat))).bind fun d723 =>
(rTru d723).bind fun t725 =>
.ok (!t725))).bind fun t726 =>
if t726 = true then
.ok (.rt (D.bl false)) else
.ok (.nx ()) : Res (Fw Unit D)) = .ok (if false = true then .rt (.bl false) else .nx ()) := by
  have l1 := hS.len5 hn
  have rs := hS.r159 hn
  have hb4 : Bd 4 y := hy.2.bd (by decide)
  have r4 := rws9 (by omega) hL
  obtain ⟨w, e1, q1⟩ := within_b (V := L) (d := rwl L) hn rfl (b := 4) (by decide) r4 ⟨hy.1, hb4⟩ (by omega)
  obtain ⟨w2, e2, q2⟩ := is_within_ok (mf := 1) (q := 4) (by omega) ⟨hy.1, hb4⟩ rs (pw5 hn (by decide)) hS.fix (by have := Nat.mul_le_mul_right (159 + 1) (show S.length + 1 ≤ 6 by omega); omega)
  have hw : w2 = w := bool_eq q2 (q1.trans ⟨fun h => (hS.lst.span y).mpr h, fun h => (hS.lst.span y).mp h⟩)
  subst hw
  have rr := hS.lst.red.rest hy.1
  have rb := rest_small hn hS hy
  have er := rest_ok (d1 := rw y) (d2 := .tup (S.map rw)) (n := n) (p := 159) (q := 4) (by omega) (isL_rw y) (isL_tup _) (fun l hl => ⟨(rs.2 l hl).1, hS.lst.red.lt l hl, (rs.2 l hl).2⟩) hy.1 hb4 (by have := Nat.mul_le_mul_right (159 + 1) (show S.length + 1 ≤ 6 by omega); omega)
  refine bd_ok e1 (bd_ok ((e_within _ _ _).trans e2) (bd_ok (says_ok w2) (bd_ok (r_trub _) (bd_ok (a := false) (or2 rfl ?_) ?_))))
  · refine bd_ok ((e_slim _).trans (slim_ok (isL_rw y) (hb4.mono (by decide)) (by omega))) (bd_ok ((e_lslim _).trans (lslim_ok (isL_rw y) (hb4.mono (by decide)) (by omega))) (bd_ok (same_r _ (by rw [slim_len]; exact hy.1) hn) (bd_ok (r_trub _) (bd_ok (a := false) (or2 rfl ?_) rfl))))
    exact bd_ok ((e_lead _).trans (lead_of_ok (isL_rw y))) (bd_ok ((e_llead _).trans (llead_ok (by omega))) (bd_ok ((e_same 11 _ _).trans (same_int 10 _)) rfl))
  rw [if_neg Bool.false_ne_true]
  have zz : rN fIsi [rw (restR y S), .ty .tuple] = .ok (.bl true) := rfl
  refine bd_ok ((e_rest _ _).trans er) (bd_ok zz (bd_ok (r_trub _) (bd_ok (a := false) (or2 rfl ?_) ?_)))
  · have ln : rN fLen [rw (restR y S)] = .ok (.int (n : Nat)) := by
      show Res.ok (D.int (((restR y S).map D.int).length : Nat)) = _
      rw [List.length_map, rr.len]
    refine bd_ok ln (bd_ok (rc_ne _ _) ?_)
    rw [decide_eq_false (fun h => h rfl)]
    refine bd_ok (a := false) ?_ rfl
    rw [orB_f]
    have em : mapR (fun x679 => (F__law_lead x679).bind fun d683 => (r2 fIx (rw (restR y S)) d683).bind fun d685 => (r2 (cmp cEq) d685 (D.int 0)).bind fun d686 => .ok d686) (S.map rw) = .ok (S.map fun _ => D.bl true) := by
      refine mapR_eq (fun t ht => ?_) (by omega)
      have tl := hS.lst.red.len t ht
      rw [e_llead, llead_ok (by omega), Res.ok_bind, at0_ix (by rw [rr.len]; exact hS.lst.red.lt t ht), Res.ok_bind, rr.off t ht, r_eqv]
      rfl
    refine bd_ok (r_itT _) (bd_ok em (bd_ok (r_all (fun _ => true) S) ?_))
    have ea : (S.all fun _ => true) = true := List.all_eq_true.mpr fun _ _ => rfl
    rw [ea]
    refine bd_ok (r_trub _) (bd_ok (a := false) (or2 rfl ?_) rfl)
    refine bd_ok (r_tup1 _) (bd_ok (zero_rw (by omega)) (bd_ok (eq_rw _ _) (bd_ok (r_ne_b _ _) ?_)))
    have : decide (restR y S = List.replicate n 0) = w2 := bool_eq (by rw [decide_eq_true_eq]; exact hS.lst.red.rest_zero hy.1) q2
    rw [this]
    cases w2 <;> rfl
  rw [if_neg Bool.false_ne_true]
  have cat : ∀ z : SP.Row, r2 fAdd (rwl L) (.lst [rw z]) = .ok (rwl (L ++ [z])) := fun z => by
    show r2 fAdd (.lst (L.map rw)) (.lst [rw z]) = _
    rw [r_catL (sz (by rw [List.length_map, List.length_singleton]; omega))]
    unfold rwl
    rw [List.map_append]
    rfl
  have rw124 : ∀ z : SP.Row, z.length = n → Bd 124 z → Rws n 124 (L ++ [z]) := fun z h1 h2 => ⟨by rw [List.length_append, List.length_singleton]; omega, fun r hr => by
    rcases List.mem_append.mp hr with hr | hr
    · exact (r4.mono (b' := 124) (by decide)).2 r hr
    · rw [List.mem_singleton.mp hr]; exact ⟨h1, h2⟩⟩
  obtain ⟨w3, e3, q3⟩ := within_b (V := L ++ [y]) (y := restR y S) (d := rwl (L ++ [y])) hn rfl (b := 124) (by decide) (rw124 y hy.1 (hb4.mono (by decide))) ⟨rr.len, rb⟩ (by rw [List.length_append, List.length_singleton]; omega)
  have h3 : w3 = true := q3.mpr (rr.to.trans fun z hz => by
    rcases List.mem_cons.mp hz with rfl | hz
    · exact .mem (List.mem_append.mpr (.inr List.mem_cons_self))
    · exact ((hS.lst.span z).mp (.mem hz)).mono fun v hv => List.mem_append.mpr (.inl hv))
  subst h3
  obtain ⟨w4, e4, q4⟩ := within_b (V := L ++ [restR y S]) (y := y) (d := rwl (L ++ [restR y S])) hn rfl (b := 124) (by decide) (rw124 _ rr.len rb) ⟨hy.1, hb4.mono (by decide)⟩ (by rw [List.length_append, List.length_singleton]; omega)
  have h4 : w4 = true := q4.mpr (rr.fro.trans fun z hz => by
    rcases List.mem_cons.mp hz with rfl | hz
    · exact .mem (List.mem_append.mpr (.inr List.mem_cons_self))
    · exact ((hS.lst.span z).mp (.mem hz)).mono fun v hv => List.mem_append.mpr (.inl hv))
  subst h4
  refine bd_ok (r_lst1 _) (bd_ok (cat y) (bd_ok e3 (bd_ok (r_trub _) (bd_ok (a := false) (or2 rfl ?_) ?_))))
  · exact bd_ok (r_lst1 _) (bd_ok (cat _) (bd_ok e4 rfl))
  · rw [if_neg Bool.false_ne_true, if_neg Bool.false_ne_true]
theorem law8 (hn : n ≤ 5) (hl : L.length ≤ 5) (hL : ∀ r ∈ L, r.length = n ∧ Sml 9 r) (hm : M.length ≤ 5) (hM : ∀ r ∈ M, r.length = n ∧ Sml 9 r) (hS : Spc n L S) (hT : Spc n M T) (hx : x.length = n ∧ Sml 9 x) :
    F_law_8 (.int (n : Nat)) (rwl L) (rwl M) (.tup (S.map rw)) (.tup (T.map rw)) (rw x) = .ok (.bl true) := by
  unfold F_law_8
  have cat : r2 fAdd (.lst [rw x]) (rwl L) = .ok (.lst ((x :: L).map rw)) := by
    show r2 fAdd (.lst [rw x]) (.lst (L.map rw)) = _
    rw [r_catL (sz (by rw [List.length_map, List.length_singleton]; omega))]
    rfl
  refine bd_ok (r_lst1 _) (bd_ok cat (bd_ok (r_itL _) (bd_nx (s := ()) ?_ (law9 hn hl hL hm hM hS hT hx.1))))
  exact search_nx (mk := rw) (c := fun _ => false) (v := D.bl false) (L := x :: L) (by simp) fun y hy => turn8 hn hl hL hS (by
    rcases List.mem_cons.mp hy with rfl | hy
    · exact hx
    · exact hL y hy)
theorem law4 {d : D} (hn : n ≤ 5) (hd : Dst d) (hl : L.length ≤ 5) (hL : ∀ r ∈ L, r.length = n ∧ Sml 9 r) (hm : M.length ≤ 5) (hM : ∀ r ∈ M, r.length = n ∧ Sml 9 r) (hS : Spc n L S) :
    F_law_4 d (.int (n : Nat)) (rwl L) (rwl M) (.tup (S.map rw)) = .ok (.bl true) := by
  have l1 := hS.len5 hn
  have rs := hS.r159 hn
  have r4 := rws9 (by omega) hL
  have ln : rN fLen [.tup (S.map rw)] = .ok (.int (S.length : Nat)) := by rw [r_lenT, List.length_map]
  have sp := law_space_ok' rs.2 (by decide) (by omega) rs.1
  rw [decide_eq_true hS.fix] at sp
  have lr := lrank_ok (d := rwl L) (by omega) rfl r4 (pw5 hn (by decide))
  have el : leastR L n = S := by rw [← space_least fun r hr => (hL r hr).1]; exact hS.eq
  rw [el] at lr
  obtain ⟨w1, f1, q1⟩ := withins (V := S) (W := L) (d := .tup (S.map rw)) hn rfl (by decide) rs (r4.mono (b' := 159) (by decide)) (by omega)
  obtain ⟨w2, f2, q2⟩ := withins (V := L) (W := S) (d := rwl L) hn rfl (by decide) (r4.mono (b' := 159) (by decide)) rs (by omega)
  have a1 : L.all w1 = true := List.all_eq_true.mpr fun y hy => (q1 y hy).mpr ((hS.lst.span y).mpr (.mem hy))
  have a2 : S.all w2 = true := List.all_eq_true.mpr fun y hy => (q2 y hy).mpr ((hS.lst.span y).mp (.mem hy))
  unfold F_law_4
  refine bd_ok ((e_lspace _ _).trans sp) (bd_ok (r_trub _) (bd_ok (a := false) (or2 rfl ?_) ?_))
  · refine bd_ok ln (bd_ok ((e_lrank _ _).trans lr) (bd_ok (rc_ne _ _) ?_))
    rw [decide_eq_false (fun h => h rfl)]
    refine bd_ok (a := false) ?_ rfl
    rw [orB_f]
    refine bd_ok (r_itL _) (bd_ok f1 (bd_ok (r_all w1 L) ?_))
    rw [a1]
    refine bd_ok (r_trub _) (bd_ok (a := false) (or2 rfl ?_) rfl)
    refine bd_ok (r_itT _) (bd_ok f2 (bd_ok (r_all w2 S) ?_))
    rw [a2]
    rfl
  rw [if_neg Bool.false_ne_true]
  unfold F_law_5
  have sb : G_space_of 1 (.tup (L.map rw)) (.int (n : Nat)) = .ok (.tup (S.map rw)) := by rw [space_ok (by omega) rfl r4 (pw5 hn (by decide)), hS.eq]
  have rk := rank_of_ok (mf := 1) (d := rwl L) (by omega) rfl r4 (pw5 hn (by decide))
  rw [hS.eq] at rk
  have ls := least_ok (d := rwl L) (by omega) rfl r4 (pw5 hn (by decide))
  rw [el] at ls
  have ss : F__law_same 11 (.tup (S.map rw)) (.tup (S.map rw)) = .ok (.bl true) := by
    rw [e_same]
    exact same_rows 8 (by omega) fun r hr => by have := hS.lst.red.len r hr; omega
  refine bd_ok (r_tupL _) (bd_ok ((e_space _ _).trans sb) (bd_ok ss (bd_ok (r_trub _) (bd_ok (a := false) (or2 rfl ?_) ?_))))
  · refine bd_ok ((e_rank _ _).trans rk) (bd_ok ln (bd_ok ((e_same 11 _ _).trans (same_int 10 _)) (bd_ok (r_trub _) (bd_ok (a := false) (or2 rfl ?_) rfl))))
    exact bd_ok ((e_least _ _).trans ls) (bd_ok ss rfl)
  rw [if_neg Bool.false_ne_true]
  unfold F_law_6
  have hT := spc (n := n) (L := M) (by omega) hM
  refine bd_ok ((e_space _ _).trans (space_ok (d := rwl M) (by omega) rfl (rws9 (by omega) hM) (pw5 hn (by decide)))) ?_
  unfold F_law_7
  obtain ⟨x, d', e, h1, h2, h3⟩ := row_ok hd (n := n) (by omega)
  rw [bR_mut hd.mut]
  refine bd_ok ((e_row _ _).trans e) ?_
  rw [bR_mut h1.mut]
  exact law8 hn hl hL hm hM hS hT ⟨h2, fun c hc => Nat.le_trans (h3 c hc) (by decide)⟩
end
theorem law_true (ns : List Int) : F_law_0 (.scr (ns.map .int)) = .ok (.bl true) := by
  unfold F_law_0
  obtain ⟨d, e, hd⟩ := state_ok ns
  refine bd_ok ((e_state _).trans e) ?_
  unfold F_law_1
  obtain ⟨v, d1, e1, h1, v1, v2⟩ := take_ok hd (m := 6) (by decide) (by decide)
  obtain ⟨n, rfl⟩ : ∃ n : Nat, v = (n : Nat) := ⟨v.toNat, by omega⟩
  rw [bR_mut hd.mut]
  refine bd_ok ((e_take _ _).trans e1) ?_
  rw [bR_mut h1.mut]
  unfold F_law_2
  obtain ⟨L, d2, e2, h2, l2, q2⟩ := drawn_ok h1 (n := n) (by omega)
  obtain ⟨M, d3, e3, h3, l3, q3⟩ := drawn_ok h2 (n := n) (by omega)
  rw [bR_mut h1.mut]
  refine bd_ok ((e_drawn _ _).trans e2) ?_
  rw [bR_mut h2.mut, bR_mut h2.mut]
  refine bd_ok ((e_drawn _ _).trans e3) ?_
  rw [bR_mut h3.mut]
  refine bd_ok (r_tup2 _ _) ?_
  rw [un2_tup]
  unfold F_law_3
  have hS := spc (n := n) (L := L) (by omega) q2
  refine bd_ok ((e_space _ _).trans (space_ok (d := rwl L) (by omega) rfl (rws9 (by omega) q2) (pw5 (by omega) (by decide)))) ?_
  exact law4 (by omega) h3 l2 q2 l3 q3 hS
theorem due : Due := fun ns _ => by
  have h := L_law (.scr (ns.map .int))
  rw [law_true ns] at h
  obtain ⟨R, e, q⟩ := h
  exact ⟨R, e, val_d q⟩
end K03
theorem PySem.Challenge.cw_bracketroads_k03_whole_least_rows_holds : PySem.Challenge.rw_bracketroads_k03_whole_least_rows.Holds := by
  exact K03.holds_of K03.due
