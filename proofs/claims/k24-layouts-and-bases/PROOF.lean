import PyProof.Rows.All
import Wide.All
import OpenK.AllK
import Wide.FinOn
import HandS.ForMost
import HandS.Exc
import HandS.TryOnly
import HandS.ExcOwn
import HandS.Lambda
import KE.DataEq
import HandS.Wide
import HandS.TupAny
import HandS.TupMul
import HandS.IsInst
import HandS.Flow
import HandS.Style
import HandS.Deep
import HandS.ForExc
import HandS.Iter
import HandS.Conv
import KE.KExcSuper
import HandS.ExcIs
import HandS.ExcField
import HandS.Defaults
import HandS.HeadHook4
import HandS.EndTab
import HandS.HeadEnd
import PyProof.ReprRoads
import HandS.Head0
import HandS.Head1
import HandS.Head2
import KE.KeyNested
import KE.SortData
import PyProof.Transfer
import HandS.Zip
import KE.KStateDown
import PySem.Challenge.RW_firstwrong_k24_layouts_and_bases
set_option Elab.async false
set_option linter.all false
set_option maxRecDepth 100000
set_option maxHeartbeats 4000000
/-! FW0: data without a heap (D), the slots of a def (Sl), how they stand in the abstract heap; steps between states; the judgements of value-level programs. -/
namespace FW
open PySem PySem.Spec L2

abbrev Sg := L2.St
/-- the tables of code objects that lambdas are looked up in, and the names of these code objects -/
class Tc where
  T : List (Addr × Str)
def NTb (o : HO) : Prop := ∀ ps, o ≠ .tbl ps
theorem ntb_lst {xs : List V} : NTb (.lst xs) := fun _ h => nomatch h
theorem ntb_tup {xs : List V} : NTb (.tup xs) := fun _ h => nomatch h
theorem ntb_dK {xs : List (Key × V)} : NTb (.dK xs) := fun _ h => nomatch h
theorem ntb_xd {xs : List (Str × V)} : NTb (.xd xs) := fun _ h => nomatch h
/-- nothing but a table may be tracked at a -/
def Nt (H : Hp) (a : Addr) : Prop := ∀ o, H a = some o → ∃ ps, o = .tbl ps
theorem nt_none {H : Hp} {a : Addr} (h : H a = none) : Nt H a := fun o e => by rw [h] at e; cases e
theorem nt_not {H : Hp} {a : Addr} {o : HO} (h : Nt H a) (e : H a = some o) (n : NTb o) : False := by
  obtain ⟨ps, q⟩ := h o e
  exact n ps q
/-- plain data: what a Python value is, without addresses -/
inductive D where
  | non | bl (b : Bool) | int (i : Int) | str (s : Str)
  | lst (xs : List D) | tup (xs : List D)
  /-- a list that is only read -/
  | rol (xs : List D)
  | dK (kvs : List (Key × D))
  | exc (n : Str) (fs : List (Str × D))
  | cls (n : Str)

/-- an exception of the class cls, its own dict at dd, as a thing that is held -/
def ExV (cls : Value) (dd : Option Addr) (a : Addr) : HO := .ext fun h => ∃ (o : Obj) (vs : Array Value), h.get? a = some o ∧ o.cls = cls ∧ o.dict = dd ∧ o.data = .fields vs
mutual
/-- v stands for d, all its objects in the part G of the abstract heap (or written by the top) -/
inductive Rep (K : PySem.W.Frag) (mg : Str → Option Value) (G : Hp) : D → V → Prop
  | non : Rep K mg G .non .non
  | bl (b : Bool) : Rep K mg G (.bl b) (.bl b)
  | int (i : Int) : Rep K mg G (.int i) (.int i)
  | str (s : Str) : Rep K mg G (.str s) (.str s)
  | lst {xs : List D} {a : Addr} {vs : List V} : G a = some (.lst vs) → RepL K mg G xs vs → Rep K mg G (.lst xs) (.ref a)
  | rol {xs : List D} {a : Addr} {vs : List V} : SqL K G a vs → RepL K mg G xs vs → Rep K mg G (.rol xs) (.ref a)
  | tup {xs : List D} {a : Addr} {vs : List V} : SqT K G a vs → RepL K mg G xs vs → Rep K mg G (.tup xs) (.ref a)
  | dK {kvs : List (Key × D)} {a : Addr} {ws : List (Key × V)} : Rd G a (.dK ws) → RepK K mg G kvs ws → Rep K mg G (.dK kvs) (.ref a)
  | cls {n : Str} {C : Addr} : mg n = some (.ref C) → Rep K mg G (.cls n) (.ref C)
  | exc {n : Str} {fs : List (Str × D)} {C a d : Addr} {ws : List (Str × V)} : mg n = some (.ref C) → G a = some (ExV (.ref C) (some d) a) → G d = some (.xd ws) → fs.map (·.1) = ws.map (·.1) →
      RepL K mg G (fs.map (·.2)) (ws.map (·.2)) → Rep K mg G (.exc n fs) (.ref a)
  | exc0 {n : Str} {C a : Addr} : mg n = some (.ref C) → G a = some (ExV (.ref C) none a) → Rep K mg G (.exc n []) (.ref a)
inductive RepL (K : PySem.W.Frag) (mg : Str → Option Value) (G : Hp) : List D → List V → Prop
  | nil : RepL K mg G [] []
  | cons {d : D} {ds : List D} {v : V} {vs : List V} : Rep K mg G d v → RepL K mg G ds vs → RepL K mg G (d :: ds) (v :: vs)
inductive RepK (K : PySem.W.Frag) (mg : Str → Option Value) (G : Hp) : List (Key × D) → List (Key × V) → Prop
  | nil : RepK K mg G [] []
  | cons {k : Key} {d : D} {ds : List (Key × D)} {v : V} {vs : List (Key × V)} : Rep K mg G d v → RepK K mg G ds vs → RepK K mg G ((k, d) :: ds) ((k, v) :: vs)
end

/-- all that may be read in G may be read in H -/
def RSub (G H : Hp) : Prop := (∀ a u, Rd G a u → Rd H a u) ∧ (∀ a xs, G a = some (.lst xs) → H a = some (.lst xs)) ∧ (∀ a φ, G a = some (.ext φ) → H a = some (.ext φ)) ∧ ∀ a xs, G a = some (.xd xs) → H a = some (.xd xs)
/-- G is a part of H -/
def Sub (G H : Hp) : Prop := ∀ a o, G a = some o → H a = some o
theorem Sub.refl (G : Hp) : Sub G G := fun _ _ h => h
theorem Sub.trans {G H I : Hp} (x : Sub G H) (y : Sub H I) : Sub G I := fun a u h => y a u (x a u h)
theorem Sub.ne {G H : Hp} (x : Sub G H) {a : Addr} (h : H a = none) : G a = none := by
  cases e : G a with
  | none => rfl
  | some u =>
    have q := x a u e
    rw [h] at q; cases q
theorem Sub.r {G H : Hp} (x : Sub G H) : RSub G H := by
  refine ⟨fun a u h => ?_, fun a u h => x a _ h, fun a u h => x a _ h, fun a u h => x a _ h⟩
  rcases h with h | ⟨o, h⟩
  · exact .inl (x _ _ h)
  · exact .inr ⟨o, x _ _ h⟩
theorem sqL_rsub {K : PySem.W.Frag} {G H : Hp} {a : Addr} {vs : List V} (s : RSub G H) (h : SqL K G a vs) : SqL K H a vs := by
  rcases h with h | h
  · exact .inl (s.1 _ _ h)
  · exact .inr h
theorem sqT_rsub {K : PySem.W.Frag} {G H : Hp} {a : Addr} {vs : List V} (s : RSub G H) (h : SqT K G a vs) : SqT K H a vs := by
  rcases h with h | h
  · exact .inl (s.1 _ _ h)
  · exact .inr h
section
variable {K : PySem.W.Frag} {mg : Str → Option Value} {G H : Hp}
mutual
theorem Rep.rsub (s : RSub G H) : ∀ {d : D} {v : V}, Rep K mg G d v → Rep K mg H d v
  | _, _, .non => .non
  | _, _, .bl b => .bl b
  | _, _, .int i => .int i
  | _, _, .str x => .str x
  | _, _, .lst h l => .lst (s.2.1 _ _ h) (RepL.rsub s l)
  | _, _, .rol h l => .rol (sqL_rsub s h) (RepL.rsub s l)
  | _, _, .tup h l => .tup (sqT_rsub s h) (RepL.rsub s l)
  | _, _, .dK h l => .dK (s.1 _ _ h) (RepK.rsub s l)
  | _, _, .cls h => .cls h
  | _, _, .exc h1 h2 h3 h4 l => .exc h1 (s.2.2.1 _ _ h2) (s.2.2.2 _ _ h3) h4 (RepL.rsub s l)
  | _, _, .exc0 h1 h2 => .exc0 h1 (s.2.2.1 _ _ h2)
theorem RepL.rsub (s : RSub G H) : ∀ {ds : List D} {vs : List V}, RepL K mg G ds vs → RepL K mg H ds vs
  | _, _, .nil => .nil
  | _, _, .cons h t => .cons (Rep.rsub s h) (RepL.rsub s t)
theorem RepK.rsub (s : RSub G H) : ∀ {ds : List (Key × D)} {vs : List (Key × V)}, RepK K mg G ds vs → RepK K mg H ds vs
  | _, _, .nil => .nil
  | _, _, .cons h t => .cons (Rep.rsub s h) (RepK.rsub s t)
end
theorem Rep.sub (s : Sub G H) {d : D} {v : V} (h : Rep K mg G d v) : Rep K mg H d v := h.rsub s.r
theorem RepL.sub (s : Sub G H) {d : List D} {v : List V} (h : RepL K mg G d v) : RepL K mg H d v := h.rsub s.r
theorem RepK.sub (s : Sub G H) {d : List (Key × D)} {v : List (Key × V)} (h : RepK K mg G d v) : RepK K mg H d v := h.rsub s.r
theorem RepL.length {ds : List D} {vs : List V} (h : RepL K mg G ds vs) : ds.length = vs.length := by
  induction ds generalizing vs with
  | nil => cases h; rfl
  | cons d ds ih => cases h with | cons a b => simp [ih b]
theorem RepL.get {ds : List D} {vs : List V} (h : RepL K mg G ds vs) {i : Nat} {d : D} (e : ds[i]? = some d) : ∃ v, vs[i]? = some v ∧ Rep K mg G d v := by
  induction ds generalizing vs i with
  | nil => simp at e
  | cons x ds ih =>
    cases h with
    | cons a b =>
      cases i with
      | zero => simp at e; subst e; exact ⟨_, rfl, a⟩
      | succ i => simpa using ih b (by simpa using e)
theorem RepL.getV {ds : List D} {vs : List V} (h : RepL K mg G ds vs) {i : Nat} {v : V} (e : vs[i]? = some v) : ∃ d, ds[i]? = some d ∧ Rep K mg G d v := by
  induction ds generalizing vs i with
  | nil => cases h; simp at e
  | cons x ds ih =>
    cases h with
    | cons a b =>
      cases i with
      | zero => simp at e; subst e; exact ⟨_, rfl, a⟩
      | succ i => simpa using ih b (by simpa using e)
theorem RepL.append {ds es : List D} {vs ws : List V} (h : RepL K mg G ds vs) (h' : RepL K mg G es ws) : RepL K mg G (ds ++ es) (vs ++ ws) := by
  induction ds generalizing vs with
  | nil => cases h; exact h'
  | cons d ds ih => cases h with | cons a b => exact .cons a (ih b)
end

/-- a slot: unset; data; an own list of data; an own dict of data; the state of a law's draws. io: it was handed in as one's own -/
inductive Sl where
  | un | dat (d : D) | lst (io : Bool) (xs : List D) | dct (io : Bool) (kvs : List (Key × D))
  | drw (io : Bool) (large cells : List Int) (rest turn : Int)
abbrev Env := List Sl
def Sl.io : Sl → Bool
  | .un => false | .dat _ => false | .lst b _ => b | .dct b _ => b | .drw b _ _ _ _ => b

/-- how the slot stands: its addresses T are tracked and not in G -/
inductive SlOk (K : PySem.W.Frag) (mg : Str → Option Value) (G H : Hp) : Sl → Option V → List Addr → Prop
  | un (o : Option V) : SlOk K mg G H .un o []
  | dat {d : D} {v : V} : Rep K mg G d v → SlOk K mg G H (.dat d) (some v) []
  | lst {io : Bool} {xs : List D} {p : Addr} {vs : List V} : H p = some (.lst vs) → RepL K mg G xs vs → SlOk K mg G H (.lst io xs) (some (.ref p)) [p]
  | dct {io : Bool} {xs : List (Key × D)} {p : Addr} {vs : List (Key × V)} : H p = some (.dK vs) → RepK K mg G xs vs → SlOk K mg G H (.dct io xs) (some (.ref p)) [p]
  | drw {io : Bool} {large cells : List Int} {rest turn : Int} {p l c : Addr} : H p = some (.dK [(.inr "large", .ref l), (.inr "rest", .int rest), (.inr "cells", .ref c), (.inr "turn", .int turn)]) →
      H l = some (.lst (large.map V.int)) → SqL K G c (cells.map V.int) → SlOk K mg G H (.drw io large cells rest turn) (some (.ref p)) [p, l]
inductive Sls (K : PySem.W.Frag) (mg : Str → Option Value) (G H : Hp) : Env → Sg → List Addr → Prop
  | nil : Sls K mg G H [] [] []
  | cons {s : Sl} {ρ : Env} {o : Option V} {σ : Sg} {T S : List Addr} : SlOk K mg G H s o T → Sls K mg G H ρ σ S → Sls K mg G H (s :: ρ) (o :: σ) (T ++ S)
structure StOk [Tc] (K : PySem.W.Frag) (mg : Str → Option Value) (G H : Hp) (σ : Sg) (ρ : Env) (S : List Addr) : Prop where
  sub : Sub G H
  sls : Sls K mg G H ρ σ S
  nd : S.Nodup
  out : ∀ a ∈ S, G a = none
  gno : ∀ a o, G a = some o → NTb o
  tab : LamX.Tabs Tc.T H
/-- from one state to a later one: what is known stays; what is tracked, not known and not one's own stays as it is -/
structure Stp [Tc] (K : PySem.W.Frag) (mg : Str → Option Value) (G H : Hp) (S : List Addr) (σ : Sg) (ρ : Env) (G' H' : Hp) (S' : List Addr) (σ' : Sg) (ρ' : Env) : Prop where
  sub : Sub G G'
  keep : ∀ a o, H a = some o → NTb o → G a = none → a ∉ S → G' a = none ∧ H' a = some o
  own : ∀ a ∈ S', a ∈ S ∨ Nt H a
  trk : ∀ a, Nt H' a → Nt H a
  back : ∀ (i : Nat) (s : Sl), ρ'[i]? = some s → s.io = true → σ'[i]? = σ[i]? ∧ ∃ s0 : Sl, ρ[i]? = some s0 ∧ s0.io = true
  st : StOk K mg G' H' σ' ρ' S'

section
variable [Tc] {K : PySem.W.Frag} {mg : Str → Option Value} {G H G' H' G1 H1 G2 H2 : Hp} {S S' S1 S2 : List Addr} {σ σ' σ1 σ2 : Sg} {ρ ρ' ρ1 ρ2 : Env}
theorem Stp.refl (st : StOk K mg G H σ ρ S) : Stp K mg G H S σ ρ G H S σ ρ :=
  ⟨Sub.refl _, fun _ _ h _ n _ => ⟨n, h⟩, fun _ h => .inl h, fun _ h => h, fun _ s e h => ⟨rfl, s, e, h⟩, st⟩
theorem Stp.trans (x : Stp K mg G H S σ ρ G1 H1 S1 σ1 ρ1) (y : Stp K mg G1 H1 S1 σ1 ρ1 G2 H2 S2 σ2 ρ2) : Stp K mg G H S σ ρ G2 H2 S2 σ2 ρ2 where
  sub := x.sub.trans y.sub
  keep := fun a o h nt n hs => by
    obtain ⟨n1, h1⟩ := x.keep a o h nt n hs
    refine y.keep a o h1 nt n1 fun q => ?_
    rcases x.own a q with q | q
    · exact hs q
    · exact nt_not q h nt
  own := fun a ha => by
    rcases y.own a ha with q | q
    · exact x.own a q
    · exact .inr (x.trk a q)
  trk := fun a h => x.trk a (y.trk a h)
  back := fun i s e h => by
    obtain ⟨e1, s1, e2, h2⟩ := y.back i s e h
    obtain ⟨e3, s0, e4, h4⟩ := x.back i s1 e2 h2
    exact ⟨e1.trans e3, s0, e4, h4⟩
  st := y.st
theorem SlOk.mono {s : Sl} {o : Option V} {T : List Addr} (x : SlOk K mg G H s o T) (hs : Sub G G') (k : ∀ a ∈ T, H' a = H a) : SlOk K mg G' H' s o T := by
  cases x with
  | un o => exact .un o
  | dat h => exact .dat (h.sub hs)
  | lst h l => exact .lst ((k _ (by simp)).trans h) (l.sub hs)
  | dct h l => exact .dct ((k _ (by simp)).trans h) (l.sub hs)
  | drw h h2 h3 => exact .drw ((k _ (by simp)).trans h) ((k _ (by simp)).trans h2) (sqL_rsub hs.r h3)
theorem Sls.mono (x : Sls K mg G H ρ σ S) (hs : Sub G G') (k : ∀ a ∈ S, H' a = H a) : Sls K mg G' H' ρ σ S := by
  induction x with
  | nil => exact .nil
  | cons a b ih => exact .cons (a.mono hs fun a ha => k a (by simp [ha])) (ih fun a ha => k a (by simp [ha]))
theorem Sls.length (x : Sls K mg G H ρ σ S) : ρ.length = σ.length := by
  induction x with
  | nil => rfl
  | cons a b ih => simp [ih]
theorem SlOk.tracked {s : Sl} {o : Option V} {T : List Addr} (x : SlOk K mg G H s o T) : ∀ a ∈ T, ∃ o, H a = some o ∧ NTb o := by
  cases x with
  | un o => simp
  | dat h => simp
  | lst h l => intro a ha; simp at ha; subst ha; exact ⟨_, h, ntb_lst⟩
  | dct h l => intro a ha; simp at ha; subst ha; exact ⟨_, h, ntb_dK⟩
  | drw h h2 h3 =>
    intro a ha
    simp at ha
    rcases ha with rfl | rfl
    · exact ⟨_, h, ntb_dK⟩
    · exact ⟨_, h2, ntb_lst⟩
theorem Sls.tracked (x : Sls K mg G H ρ σ S) : ∀ a ∈ S, ∃ o, H a = some o ∧ NTb o := by
  induction x with
  | nil => simp
  | cons a b ih =>
    intro c hc
    rcases List.mem_append.mp hc with hc | hc
    · exact a.tracked c hc
    · exact ih c hc
theorem Sls.notNt (x : Sls K mg G H ρ σ S) {a : Addr} (ha : a ∈ S) (h : Nt H a) : False := by
  obtain ⟨o, e, n⟩ := x.tracked a ha
  exact nt_not h e n
/-- a thing that is no table and no code object changes: the tables stay -/
theorem tabs_upd {T : List (Addr × Str)} {p : Addr} {o u : HO} (t : LamX.Tabs T H) (hp : H p = some o) (n : NTb o) (nx : ∀ φ, o ≠ .ext φ) : LamX.Tabs T (upd H p u) := fun q hq => by
  obtain ⟨ps, h1, h2, h3⟩ := t q hq
  refine ⟨ps, (upd_ne fun z => ?_).trans h1, h2, fun pos cv hc => ?_⟩
  · rw [z, hp] at h1; cases h1; exact n _ rfl
  · obtain ⟨c, e1, e2⟩ := h3 pos cv hc
    refine ⟨c, e1, (upd_ne fun z => ?_).trans e2⟩
    rw [z, hp] at e2
    exact nx _ (Option.some.inj e2)
/-- split at a slot -/
theorem Sls.at (x : Sls K mg G H ρ σ S) {i : Nat} {s : Sl} (e : ρ[i]? = some s) : ∃ o S1 T S2, σ[i]? = some o ∧ S = S1 ++ T ++ S2 ∧ SlOk K mg G H s o T ∧
    ∀ G' H' s' o' T', Sub G G' → (∀ a ∈ S1 ++ S2, H' a = H a) → SlOk K mg G' H' s' o' T' → Sls K mg G' H' (ρ.set i s') (σ.set i o') (S1 ++ T' ++ S2) := by
  induction x generalizing i with
  | nil => simp at e
  | cons a b ih =>
    rename_i s0 ρ0 o0 σ0 T S
    cases i with
    | zero =>
      simp at e; subst e
      refine ⟨o0, [], T, S, rfl, by simp, a, fun G' H' s' o' T' hs k h => ?_⟩
      simp only [List.set_cons_zero, List.nil_append]
      exact .cons h (b.mono hs fun c hc => k c (by simpa using hc))
    | succ i =>
      obtain ⟨o, S1, T2, S2, h1, h2, h3, h4⟩ := ih (by simpa using e)
      refine ⟨o, T ++ S1, T2, S2, by simpa using h1, by rw [h2]; simp, h3, fun G' H' s' o' T' hs k h => ?_⟩
      simp only [List.set_cons_succ]
      have := h4 G' H' s' o' T' hs (fun c hc => k c (by simp at hc ⊢; rcases hc with hc | hc <;> simp [hc])) h
      have z := Sls.cons (a.mono hs fun c hc => k c (by simp [hc])) this
      simpa using z
end
end FW

set_option Elab.async false
set_option linter.all false
set_option maxRecDepth 100000
set_option maxHeartbeats 4000000
/-! FW1: programs of values (M), what they say of the abstract heap (PostO), the judgements DE, DT, DA, and the first rules. -/
namespace FW
open PySem PySem.Spec L2
variable [Tc]

/-- an expression's end -/
inductive Out (α : Type) where
  | ok (a : α) (ρ : Env) | err (n : Str) (fs : List (Str × D)) (ρ : Env) | bad
abbrev M (α : Type) := Env → Out α
def mPure {α : Type} (a : α) : M α := fun ρ => .ok a ρ
def Out.then {α β : Type} (o : Out α) (k : α → M β) : Out β := match o with
  | .ok a ρ => k a ρ | .err n fs ρ => .err n fs ρ | .bad => .bad
def mBind {α β : Type} (m : M α) (k : α → M β) : M β := fun ρ => (m ρ).then k
def mOpt {α : Type} (o : Option α) : M α := fun ρ => match o with | some a => .ok a ρ | none => .bad

/-- an error of the class named n with the fields fs -/
def ErrIs (K : PySem.W.Frag) (mg : Str → Option Value) (G : Hp) (n : Str) (fs : List (Str × D)) (c : Value) (dd : Option Addr) : Prop :=
  ∃ C, mg n = some (.ref C) ∧ c = .ref C ∧ ((fs = [] ∧ dd = none) ∨ ∃ d ws, dd = some d ∧ G d = some (.xd ws) ∧ fs.map (·.1) = ws.map (·.1) ∧ RepL K mg G (fs.map (·.2)) (ws.map (·.2)))

section
variable {α β : Type} (K : PySem.W.Frag) (mg : Str → Option Value) (W : WX)
def PostO (G H : Hp) (S : List Addr) (σ : Sg) (ρ : Env) (o : Out α) (R : α → Env → Hp → Hp → List Addr → Prop) : Prop := match o with
  | .ok a ρ' => ∀ G' H' S', Stp K mg G H S σ ρ G' H' S' σ ρ' → R a ρ' G' H' S'
  | .err n fs ρ' => ∀ G' H' S' c dd, Stp K mg G H S σ ρ G' H' S' σ ρ' → ErrIs K mg G' n fs c dd → W c dd σ H'
  | .bad => False
def rdE (m : M D) : TE := fun σ H Q => ∃ G ρ S, StOk K mg G H σ ρ S ∧ PostO K mg W G H S σ ρ (m ρ) fun d _ G' H' _ => ∀ v, Rep K mg G' d v → Q v H'
def rdT (m : M Bool) : TT := fun σ H Q => ∃ G ρ S, StOk K mg G H σ ρ S ∧ PostO K mg W G H S σ ρ (m ρ) fun b _ _ H' _ => Q b H'
def rdA (m : M (List D)) : TA := fun σ H Q => ∃ G ρ S, StOk K mg G H σ ρ S ∧ PostO K mg W G H S σ ρ (m ρ) fun d _ G' H' _ => ∀ v, RepL K mg G' d v → Q v H'
end
/-- a fresh own thing: its slot, its addresses -/
def rdX (K : PySem.W.Frag) (mg : Str → Option Value) (W : WX) (m : M Sl) : TE := fun σ H Q => ∃ G ρ S, StOk K mg G H σ ρ S ∧ PostO K mg W G H S σ ρ (m ρ) fun s _ G' H' S' =>
  ∀ v T, s.io = false → SlOk K mg G' H' s (some v) T → (∀ a ∈ T, Nt H a ∧ a ∉ S' ∧ G' a = none) → T.Nodup → Q v H'

abbrev DE (X : Cx) (W : WX) (e : Expr) (m : M D) : Prop := PE X e (rdE X.K X.mg W m)
abbrev DT (X : Cx) (W : WX) (e : Expr) (m : M Bool) : Prop := PT X e (rdT X.K X.mg W m)
abbrev DA (X : Cx) (W : WX) (es : List Expr) (m : M (List D)) : Prop := PA X es (rdA X.K X.mg W m)
abbrev DX (X : Cx) (W : WX) (e : Expr) (m : M Sl) : Prop := PE X e (rdX X.K X.mg W m)

theorem PEimp {X : Cx} {e : Expr} {t t' : TE} (h : PE X e t) (i : ∀ σ H Q, t' σ H Q → t σ H Q) : PE X e t' := ⟨fun pins s σ H Q I q => h.run pins s σ H Q I (i _ _ _ q)⟩
theorem PTimp {X : Cx} {e : Expr} {t t' : TT} (h : PT X e t) (i : ∀ σ H Q, t' σ H Q → t σ H Q) : PT X e t' := ⟨fun pins s σ H Q I q => h.run pins s σ H Q I (i _ _ _ q)⟩
theorem PAimp {X : Cx} {e : List Expr} {t t' : TA} (h : PA X e t) (i : ∀ σ H Q, t' σ H Q → t σ H Q) : PA X e t' := ⟨fun p pins s σ H Q I q => h.run p pins s σ H Q I (i _ _ _ q)⟩

section
variable {α β : Type} {K : PySem.W.Frag} {mg : Str → Option Value} {W : WX} {G H G1 H1 : Hp} {S S1 : List Addr} {σ : Sg} {ρ ρ1 : Env}
theorem PostO.from {o : Out α} {R : α → Env → Hp → Hp → List Addr → Prop} (s : Stp K mg G H S σ ρ G1 H1 S1 σ ρ1) (h : PostO K mg W G H S σ ρ o R) : PostO K mg W G1 H1 S1 σ ρ1 o R := by
  cases o with
  | ok a ρ' => exact fun G' H' S' t => h G' H' S' (s.trans t)
  | err n fs ρ' => exact fun G' H' S' c dd t => h G' H' S' c dd (s.trans t)
  | bad => exact h
theorem PostO.imp {o : Out α} {R R' : α → Env → Hp → Hp → List Addr → Prop} (h : PostO K mg W G H S σ ρ o R)
    (f : ∀ a ρ' G' H' S', Stp K mg G H S σ ρ G' H' S' σ ρ' → R a ρ' G' H' S' → R' a ρ' G' H' S') : PostO K mg W G H S σ ρ o R' := by
  cases o with
  | ok a ρ' => exact fun G' H' S' t => f _ _ _ _ _ t (h G' H' S' t)
  | err n fs ρ' => exact h
  | bad => exact h
/-- one after the other: behind the first, the second's wish at the state there -/
theorem PostO.bind {o : Out α} {k : α → M β} {R : β → Env → Hp → Hp → List Addr → Prop} (h : PostO K mg W G H S σ ρ (o.then k) R) :
    PostO K mg W G H S σ ρ o fun a ρ1 G1 H1 S1 => Stp K mg G H S σ ρ G1 H1 S1 σ ρ1 ∧ PostO K mg W G1 H1 S1 σ ρ1 (k a ρ1) R := by
  cases o with
  | ok a ρ' => exact fun G' H' S' t => ⟨t, PostO.from t h⟩
  | err n fs ρ' => exact h
  | bad => exact h
theorem PostO.opt {o : Option α} {R : α → Env → Hp → Hp → List Addr → Prop} (h : PostO K mg W G H S σ ρ (mOpt o ρ1) R) : ∃ a, o = some a ∧ PostO K mg W G H S σ ρ (.ok a ρ1) R := by
  cases o with
  | none => exact False.elim h
  | some a => exact ⟨a, rfl, h⟩
/-- what a pure operation may do to the heap: lay new things -/
structure Al (G H G' H' : Hp) : Prop where
  sub : Sub G G'
  subH : Sub G' H'
  keep : ∀ a o, H a = some o → H' a = some o ∧ (G a = none → G' a = none)
  news : ∀ a o, G' a = some o → G a = some o ∨ NTb o
theorem Al.refl (s : Sub G H) : Al G H G H := ⟨Sub.refl _, s, fun _ _ h => ⟨h, fun z => z⟩, fun _ _ h => .inl h⟩
theorem Al.new {p : Addr} {o : HO} (s : Sub G H) (n : H p = none) (nt : NTb o := by intro _ h; cases h) : Al G H (upd G p o) (upd H p o) := by
  have ng : G p = none := s.ne n
  refine ⟨fun a u h => ?_, fun a u h => ?_, fun a u h => ?_, fun a u h => ?_⟩
  · rw [upd_ne (ne_of_none h ng)]; exact h
  · by_cases e : a = p
    · subst e; rw [upd_same] at h ⊢; exact h
    · rw [upd_ne e] at h ⊢; exact s a u h
  · have e : a ≠ p := ne_of_none h n
    rw [upd_ne e, upd_ne e]
    exact ⟨h, fun z => z⟩
  · by_cases e : a = p
    · subst e; rw [upd_same] at h; cases h; exact .inr nt
    · rw [upd_ne e] at h; exact .inl h
/-- .. or lay a thing that isn't known -/
theorem Al.newH {p : Addr} {o : HO} (s : Sub G H) (n : H p = none) : Al G H G (upd H p o) := by
  refine ⟨Sub.refl _, fun a u h => ?_, fun a u h => ?_, fun _ _ h => .inl h⟩
  · rw [upd_ne (ne_of_none (s a u h) n)]; exact s a u h
  · rw [upd_ne (ne_of_none h n)]; exact ⟨h, fun z => z⟩
theorem Al.trans {G2 H2 : Hp} (x : Al G H G1 H1) (y : Al G1 H1 G2 H2) : Al G H G2 H2 :=
  ⟨x.sub.trans y.sub, y.subH, fun a o h => ⟨(y.keep a o (x.keep a o h).1).1, fun z => (y.keep a o (x.keep a o h).1).2 ((x.keep a o h).2 z)⟩, fun a o h => (y.news a o h).elim (x.news a o) .inr⟩
theorem Al.stp (st : StOk K mg G H σ ρ S) (x : Al G H G1 H1) : Stp K mg G H S σ ρ G1 H1 S σ ρ where
  sub := x.sub
  keep := fun a o h _ n _ => ⟨(x.keep a o h).2 n, (x.keep a o h).1⟩
  own := fun _ h => .inl h
  trk := fun a h o e => h o (x.keep a o e).1
  back := fun _ s e h => ⟨rfl, s, e, h⟩
  st := by
    refine ⟨x.subH, st.sls.mono x.sub fun a ha => ?_, st.nd, fun a ha => ?_, fun a o e => ?_, st.tab.ext fun b o e => (x.keep b o e).1⟩
    · obtain ⟨o, e, _⟩ := st.sls.tracked a ha
      rw [e]; exact (x.keep a o e).1
    · obtain ⟨o, e, _⟩ := st.sls.tracked a ha
      exact (x.keep a o e).2 (st.out a ha)
    · rcases x.news a o e with h | h
      · exact st.gno a o h
      · exact h
end

/-! ### names and constants -/
/-- the name in slot i, as data: an own list or dict is given up to the data -/
def mVar (i : Nat) : M D := fun ρ => match ρ[i]? with
  | some (.dat d) => .ok d ρ
  | some (.lst false xs) => .ok (.lst xs) (ρ.set i (.dat (.lst xs)))
  | some (.dct false xs) => .ok (.dK xs) (ρ.set i (.dat (.dK xs)))
  | _ => .bad
theorem set_get {l : List Sl} {i j : Nat} {s t : Sl} (h : (l.set i s)[j]? = some t) : (j = i ∧ t = s) ∨ l[j]? = some t := by
  by_cases e : i = j
  · subst e
    by_cases q : i < l.length
    · rw [List.getElem?_set_self q] at h; cases h; exact .inl ⟨rfl, rfl⟩
    · rw [List.getElem?_eq_none (by simpa using q)] at h; cases h
  · rw [List.getElem?_set_ne e] at h; exact .inr h
section
variable {K : PySem.W.Frag} {mg : Str → Option Value} {G H : Hp} {S : List Addr} {σ : Sg} {ρ : Env}
theorem set_id {l : Sg} {i : Nat} {o : Option V} (e : l[i]? = some o) : l.set i o = l := by
  apply List.ext_getElem?
  intro j
  by_cases q : i = j
  · subst q
    have h : i < l.length := (List.getElem?_eq_some_iff.mp e).1
    rw [List.getElem?_set_self h, e]
  · rw [List.getElem?_set_ne q]
/-- an own thing is given up: its address is known from then on -/
theorem freeze {i : Nat} {s : Sl} {d : D} {o : HO} {p : Addr} (st : StOk K mg G H σ ρ S) (e : ρ[i]? = some s) (hp : H p = some o) (hr : ∀ T v, SlOk K mg G H s v T → v = some (.ref p) → T = [p] )
    (hv : σ[i]? = some (some (.ref p))) (hd : Rep K mg (upd G p o) d (.ref p)) (nt : NTb o := by intro _ h; cases h) : ∃ S', Stp K mg G H S σ ρ (upd G p o) H S' σ (ρ.set i (.dat d)) := by
  obtain ⟨ov, S1, T, S2, h1, h2, h3, h4⟩ := st.sls.at e
  rw [hv] at h1; cases h1
  obtain rfl := hr T _ h3 rfl
  subst h2
  have np : G p = none := st.out p (by simp)
  have nd := st.nd
  have hsub : Sub G (upd G p o) := fun a u h => by rw [upd_ne (ne_of_none h np)]; exact h
  have q := h4 (upd G p o) H (.dat d) (some (.ref p)) [] hsub (fun _ _ => rfl) (.dat hd)
  rw [set_id hv] at q
  simp only [List.append_nil] at q
  refine ⟨S1 ++ S2, hsub, fun a u h _ n hs => ?_, fun a ha => .inl ?_, fun _ h => h, fun j s' hj hio => ?_, ⟨fun a u h => ?_, q, ?_, fun a ha => ?_, fun a u h => ?_, st.tab⟩⟩
  · have : a ≠ p := fun z => hs (by simp [z])
    exact ⟨by rw [upd_ne this]; exact n, h⟩
  · simp at ha ⊢; rcases ha with ha | ha <;> simp [ha]
  · rcases set_get hj with ⟨rfl, rfl⟩ | hj
    · cases hio
    · exact ⟨rfl, s', hj, hio⟩
  · by_cases z : a = p
    · subst z; rw [upd_same] at h; cases h; exact hp
    · rw [upd_ne z] at h; exact st.sub a u h
  · simp only [List.append_assoc, List.nodup_append, List.nodup_cons, List.mem_append, List.mem_cons, List.not_mem_nil, or_false] at nd ⊢
    refine ⟨nd.1, nd.2.1.2.1, fun a ha b hb => nd.2.2 a ha b (.inr hb)⟩
  · have z : a ≠ p := by
      rintro rfl
      simp only [List.append_assoc, List.nodup_append, List.nodup_cons, List.mem_append, List.mem_cons, List.not_mem_nil, or_false] at nd
      simp at ha
      rcases ha with ha | ha
      · exact nd.2.2 a ha a (.inl rfl) rfl
      · exact nd.2.1.2.2 a rfl a ha rfl
    rw [upd_ne z]
    exact st.out a (by simp at ha ⊢; rcases ha with ha | ha <;> simp [ha])
  · by_cases z : a = p
    · subst z; rw [upd_same] at h; cases h; exact nt
    · rw [upd_ne z] at h; exact st.gno a u h
end
section
variable {X : Cx} {W : WX}
theorem de_var (i : Nat) {x : Str} {pos : Pos} (hN : X.N[i]? = some x := by rfl) (hv : Vis X.env.scope x := by first | exact Or.inl rfl | exact Or.inr (Or.inl rfl) | exact Or.inr (Or.inr rfl)) (hd : (x == ("__debug__" : Str)) = false := by decide)
    (hcd : (x == ("__classdict__" : Str)) = false := by decide) : DE X W (.Name x pos) (mVar i) := by
  refine PEimp (pe_var hN hv hd hcd) ?_
  rintro σ H Q ⟨G, ρ, S, st, h⟩
  unfold mVar at h
  cases e : ρ[i]? with
  | none => rw [e] at h; exact h.elim
  | some s =>
    rw [e] at h
    obtain ⟨ov, S1, T, S2, h1, h2, h3, h4⟩ := st.sls.at e
    cases h3 with
    | un o => exact h.elim
    | dat r => exact ⟨_, h1, h G H S (Stp.refl st) _ r⟩
    | lst hp l =>
      rename_i io xs p vs
      cases io with
      | true => exact h.elim
      | false =>
        have hd : Rep X.K X.mg (upd G p (.lst vs)) (.lst xs) (.ref p) := .lst upd_same (l.sub fun a u q => by rw [upd_ne (ne_of_none q (st.out p (by rw [h2]; simp)))]; exact q)
        obtain ⟨S', t⟩ := freeze st e hp (fun T v x hv => by cases x; cases hv; rfl) h1 hd
        exact ⟨_, h1, h _ _ _ t _ hd⟩
    | dct hp l =>
      rename_i io xs p vs
      cases io with
      | true => exact h.elim
      | false =>
        have hd : Rep X.K X.mg (upd G p (.dK vs)) (.dK xs) (.ref p) := .dK (.inl upd_same) (l.sub fun a u q => by rw [upd_ne (ne_of_none q (st.out p (by rw [h2]; simp)))]; exact q)
        obtain ⟨S', t⟩ := freeze st e hp (fun T v x hv => by cases x; cases hv; rfl) h1 hd
        exact ⟨_, h1, h _ _ _ t _ hd⟩
    | drw _ _ _ => exact h.elim
theorem de_const {e : Expr} {v : V} {d : D} (h : PE X e (tC v)) (r : ∀ G, Rep X.K X.mg G d v) : DE X W e (mPure d) :=
  PEimp h fun _ _ _ ⟨_, _, _, st, p⟩ => p _ _ _ (Stp.refl st) _ (r _)
theorem de_int {i : Int} {j : Nat} {pos : Pos} : DE X W (.Constant (.int i) j pos) (mPure (.int i)) := de_const pe_int fun _ => .int i
theorem de_bl {b : Bool} {j : Nat} {pos : Pos} : DE X W (.Constant (.bool b) j pos) (mPure (.bl b)) := de_const pe_bl fun _ => .bl b
theorem de_non {j : Nat} {pos : Pos} : DE X W (.Constant .none j pos) (mPure .non) := de_const pe_non fun _ => .non
theorem de_str {s : Str} {j : Nat} {pos : Pos} : DE X W (.Constant (.str s) j pos) (mPure (.str s)) := de_const pe_str fun _ => .str s
/-- a constant of the module -/
theorem de_glob {x : Str} {pos : Pos} {u : Value} {v : V} {d : D} (hm : X.mg x = some u) (rv : RelV v u) (r : ∀ G, Rep X.K X.mg G d v) (hg : Gl X x := by rfl) (hd : (x == ("__debug__" : Str)) = false := by decide) : DE X W (.Name x pos) (mPure d) :=
  de_const (pe_glob hg hm rv hd) r

/-! ### argument lists, displays -/
theorem da_nil : DA X W [] (mPure []) := PAimp pa_nil fun _ _ _ ⟨_, _, _, st, p⟩ => p _ _ _ (Stp.refl st) _ .nil
def mCons (m : M D) (n : M (List D)) : M (List D) := mBind m fun d => mBind n fun ds => mPure (d :: ds)
theorem da_cons {e : Expr} {es : List Expr} {m : M D} {n : M (List D)} (h : DE X W e m) (t : DA X W es n) (hs : starEach (e :: es) X.env = (false, eval e X.env) :: starEach es X.env := by rfl) : DA X W (e :: es) (mCons m n) := by
  refine PAimp (pa_cons h t hs) ?_
  rintro σ H Q ⟨G, ρ, S, st, p⟩
  refine ⟨G, ρ, S, st, (PostO.bind p).imp fun d ρ1 G1 H1 S1 _ ⟨t1, p1⟩ v r => ⟨G1, ρ1, S1, t1.st, (PostO.bind p1).imp fun ds ρ2 G2 H2 S2 _ ⟨t2, p2⟩ vs rs => ?_⟩⟩
  exact p2 _ _ _ (Stp.refl t2.st) _ (.cons (r.sub t2.sub) rs)
def mTup (m : M (List D)) : M D := mBind m fun ds => mOpt (if ds.length ≤ 1000 then some (.tup ds) else none)
theorem de_tup {es : List Expr} {n : Nat} {pos : Pos} {m : M (List D)} (h : DA X W es m) : DE X W (.Tuple es n pos) (mTup m) := by
  refine PEimp (pe_tup h) ?_
  rintro σ H Q ⟨G, ρ, S, st, p⟩
  refine ⟨G, ρ, S, st, (PostO.bind p).imp fun ds ρ1 G1 H1 S1 _ ⟨t1, p1⟩ vs rs => ?_⟩
  obtain ⟨d, e, p2⟩ := PostO.opt p1
  split at e
  · rename_i hl
    cases e
    refine ⟨by rw [← rs.length]; exact Nat.le_of_lt (small1000 hl), fun a ha => ?_⟩
    have al := Al.new (o := .tup vs) t1.st.sub ha
    exact p2 _ _ _ (al.stp t1.st) _ (.tup (.inl (.inl upd_same)) (rs.sub al.sub))
  · cases e
/-- a list display, own -/
def mLstX (m : M (List D)) : M Sl := mBind m fun ds => mOpt (if ds.length ≤ 1000 then some (.lst false ds) else none)
theorem dx_lst {es : List Expr} {pos : Pos} {m : M (List D)} (h : DA X W es m) : DX X W (.List es pos) (mLstX m) := by
  refine PEimp (pe_lst h) ?_
  rintro σ H Q ⟨G, ρ, S, st, p⟩
  refine ⟨G, ρ, S, st, (PostO.bind p).imp fun ds ρ1 G1 H1 S1 _ ⟨t1, p1⟩ vs rs => ?_⟩
  obtain ⟨d, e, p2⟩ := PostO.opt p1
  split at e
  · rename_i hl
    cases e
    refine ⟨by rw [← rs.length]; exact Nat.le_of_lt (small1000 hl), fun a ha => ?_⟩
    have al := Al.newH (o := .lst vs) t1.st.sub ha
    have hn : Nt H a := t1.trk a (nt_none ha)
    refine p2 _ _ _ (al.stp t1.st) (.ref a) [a] rfl (.lst upd_same rs) (fun b hb => ?_) (by simp)
    simp at hb; subst hb
    exact ⟨hn, fun z => t1.st.sls.notNt z (nt_none ha), t1.st.sub.ne ha⟩
  · cases e
/-- an own thing as data -/
def dOf : Sl → Option D
  | .dat d => some d | .lst false xs => some (.lst xs) | .dct false xs => some (.dK xs) | _ => none
def mFz (m : M Sl) : M D := mBind m fun s => mOpt (dOf s)
theorem PostO.bind0 {α β : Type} {K : PySem.W.Frag} {mg : Str → Option Value} {G H : Hp} {S : List Addr} {σ : Sg} {ρ : Env} {o : Out α} {k : α → M β} {R : β → Env → Hp → Hp → List Addr → Prop} (h : PostO K mg W G H S σ ρ (o.then k) R) :
    PostO K mg W G H S σ ρ o fun a ρ1 G1 H1 S1 => Stp K mg G H S σ ρ G1 H1 S1 σ ρ1 ∧ PostO K mg W G H S σ ρ (k a ρ1) R := by
  cases o with
  | ok a ρ' => exact fun G' H' S' t => ⟨t, h⟩
  | err n fs ρ' => exact h
  | bad => exact h
/-- a fresh own thing becomes known -/
theorem know {K : PySem.W.Frag} {mg : Str → Option Value} {G H G1 H1 : Hp} {S S1 : List Addr} {σ : Sg} {ρ ρ1 : Env} {a : Addr} {o : HO} (t1 : Stp K mg G H S σ ρ G1 H1 S1 σ ρ1) (h1 : H1 a = some o) (hn : Nt H a ∧ a ∉ S1 ∧ G1 a = none) (nt : NTb o := by intro _ h; cases h) :
    Sub G1 (upd G1 a o) ∧ Stp K mg G H S σ ρ (upd G1 a o) H1 S1 σ ρ1 := by
  have s12 : Sub G1 (upd G1 a o) := fun b u q => by rw [upd_ne (ne_of_none q hn.2.2)]; exact q
  refine ⟨s12, t1.sub.trans s12, fun b u hb nb n hs' => ?_, t1.own, t1.trk, t1.back, ⟨fun b u q => ?_, t1.st.sls.mono s12 fun _ _ => rfl, t1.st.nd, fun b hb => ?_, fun b u q => ?_, t1.st.tab⟩⟩
  · obtain ⟨q1, q2⟩ := t1.keep b u hb nb n hs'
    have : b ≠ a := fun z => by subst z; exact nt_not hn.1 hb nb
    exact ⟨by rw [upd_ne this]; exact q1, q2⟩
  · by_cases z : b = a
    · subst z; rw [upd_same] at q; cases q; exact h1
    · rw [upd_ne z] at q; exact t1.st.sub b u q
  · have : b ≠ a := fun z => hn.2.1 (z ▸ hb)
    rw [upd_ne this]; exact t1.st.out b hb
  · by_cases z : b = a
    · subst z; rw [upd_same] at q; cases q; exact nt
    · rw [upd_ne z] at q; exact t1.st.gno b u q
theorem de_fz {e : Expr} {m : M Sl} (h : DX X W e m) : DE X W e (mFz m) := by
  refine PEimp h ?_
  rintro σ H Q ⟨G, ρ, S, st, p⟩
  refine ⟨G, ρ, S, st, (PostO.bind0 p).imp fun s ρ1 G1 H1 S1 _ ⟨t1, p1⟩ v T hio ok hT _ => ?_⟩
  obtain ⟨d, e, p2⟩ := PostO.opt p1
  cases ok with
  | un o => cases e
  | dat r => cases e; exact p2 _ _ _ t1 _ r
  | @lst io xs a vs h1 l =>
    cases io with
    | true => cases e
    | false =>
      cases e
      obtain ⟨s12, t2⟩ := know t1 h1 (hT a (by simp))
      exact p2 _ _ _ t2 _ (.lst upd_same (l.sub s12))
  | @dct io xs a vs h1 l =>
    cases io with
    | true => cases e
    | false =>
      cases e
      obtain ⟨s12, t2⟩ := know t1 h1 (hT a (by simp))
      exact p2 _ _ _ t2 _ (.dK (.inl upd_same) (l.sub s12))
  | @drw io _ _ _ _ _ _ _ _ _ _ => cases io <;> cases e
end
end FW

set_option Elab.async false
set_option linter.all false
set_option maxRecDepth 100000
set_option maxHeartbeats 4000000
/-! FW2: operators, comparisons, truth, tests, calls of built-ins by values. -/
namespace FW
open PySem PySem.Spec L2
variable [Tc]

/-- an operation by values does what g says of data -/
def OpD (X : Cx) (r : R2) (g : D → D → Option D) : Prop := ∀ (G H : Hp) (a b d : D) (x y : V) (Q : VK), Sub G H → Rep X.K X.mg G a x → Rep X.K X.mg G b y → g a b = some d →
  (∀ G' H' v, Al G H G' H' → Rep X.K X.mg G' d v → Q v H') → r x y H Q
def OpB (X : Cx) (r : R2) (g : D → D → Option Bool) : Prop := ∀ (G H : Hp) (a b : D) (c : Bool) (x y : V) (Q : VK), Sub G H → Rep X.K X.mg G a x → Rep X.K X.mg G b y → g a b = some c → Q (.bl c) H → r x y H Q
def HasOp (X : Cx) (f : Value → Value → Sem Value) (g : D → D → Option D) : Prop := ∃ r, OpR X f r ∧ OpD X r g
def HasCmp (X : Cx) (f : Value → Value → Sem Value) (g : D → D → Option Bool) : Prop := ∃ r, OpR X f r ∧ OpB X r g
def mOp (g : D → D → Option D) (m n : M D) : M D := mBind m fun a => mBind n fun b => mOpt (g a b)
def mCmp (g : D → D → Option Bool) (m n : M D) : M Bool := mBind m fun a => mBind n fun b => mOpt (g a b)
def mBl (m : M Bool) : M D := mBind m fun b => mPure (.bl b)
def mChain (g g' : D → D → Option Bool) (m n k : M D) : M Bool := mBind m fun a => mBind n fun b => mBind (mOpt (g a b)) fun c => if c then mBind k fun d => mOpt (g' b d) else mPure false
/-- the truth of any data -/
def dTru : D → Option Bool
  | .non => some false | .bl b => some b | .int i => some (i != 0) | .str s => if s.length ≤ sizeLine then some (s.length != 0) else none
  | .lst xs => some (!xs.isEmpty) | .rol xs => some (!xs.isEmpty) | .tup xs => some (!xs.isEmpty) | _ => none
def mTru (m : M D) : M Bool := mBind m fun d => mOpt (dTru d)
def mAnd (m n : M Bool) : M Bool := mBind m fun b => if b then n else mPure false
def mOr (m n : M Bool) : M Bool := mBind m fun b => if b then mPure true else n
def mNot (m : M Bool) : M Bool := mBind m fun b => mPure (!b)
def mAndV (m n : M D) : M D := mBind m fun d => mBind (mOpt (dTru d)) fun b => if b then n else mPure d
def mOrV (m n : M D) : M D := mBind m fun d => mBind (mOpt (dTru d)) fun b => if b then mPure d else n
def mIte {α : Type} (c : M Bool) (m n : M α) : M α := mBind c fun b => if b then m else n
theorem mBind_assoc {α β γ : Type} (m : M α) (f : α → M β) (g : β → M γ) : mBind (mBind m f) g = mBind m fun a => mBind (f a) g := by
  funext ρ
  simp only [mBind]
  cases m ρ <;> rfl
theorem mBl_cmp (g : D → D → Option Bool) (m n : M D) : mBl (mCmp g m n) = mBind m fun a => mBind n fun b => mBind (mOpt (g a b)) fun b => mPure (D.bl b) := by
  unfold mBl mCmp
  rw [mBind_assoc]
  congr 1; funext a; rw [mBind_assoc]
theorem mBl_not (m : M D) : mBl (mNot (mTru m)) = mBind m fun d => mBind (mOpt (dTru d)) fun b => mPure (D.bl (!b)) := by
  unfold mBl mNot mTru
  rw [mBind_assoc, mBind_assoc]
  rfl
section
variable {X : Cx} {W : WX} {a b c : Expr} {m n k : M D} {pos : Pos}
theorem de_op {g : D → D → Option D} {op : Operator} (ho : HasOp X (binaryOp op) g) (ha : DE X W a m) (hb : DE X W b n) : DE X W (.BinOp a op b pos) (mOp g m n) := by
  obtain ⟨r, ho, hg⟩ := ho
  refine PEimp (pe_op ho ha hb) ?_
  rintro σ H Q ⟨G, ρ, S, st, p⟩
  refine ⟨G, ρ, S, st, (PostO.bind p).imp fun d1 ρ1 G1 H1 S1 _ ⟨t1, p1⟩ v1 r1 => ⟨G1, ρ1, S1, t1.st, (PostO.bind p1).imp fun d2 ρ2 G2 H2 S2 _ ⟨t2, p2⟩ v2 r2 => ?_⟩⟩
  obtain ⟨d, e, p3⟩ := PostO.opt p2
  exact hg G2 H2 d1 d2 d v1 v2 Q t2.st.sub (r1.sub t2.sub) r2 e fun G' H' v al rv => p3 _ _ _ (al.stp t2.st) _ rv
theorem dt_cmp {g : D → D → Option Bool} {op : CmpOp} (ho : HasCmp X (compareOp op) g) (ha : DE X W a m) (hb : DE X W b n) (hm : behindInMarks op b = false := by rfl) : DT X W (.Compare a [op] [b] pos) (mCmp g m n) := by
  obtain ⟨r, ho, hg⟩ := ho
  refine PTimp (pt_cmpR ho ha hb hm) ?_
  rintro σ H Q ⟨G, ρ, S, st, p⟩
  refine ⟨G, ρ, S, st, (PostO.bind p).imp fun d1 ρ1 G1 H1 S1 _ ⟨t1, p1⟩ v1 r1 => ⟨G1, ρ1, S1, t1.st, (PostO.bind p1).imp fun d2 ρ2 G2 H2 S2 _ ⟨t2, p2⟩ v2 r2 => ?_⟩⟩
  obtain ⟨d, e, p3⟩ := PostO.opt p2
  exact hg G2 H2 d1 d2 d v1 v2 _ t2.st.sub (r1.sub t2.sub) r2 e ⟨d, rfl, p3 _ _ _ (Stp.refl t2.st)⟩
theorem de_cmp {g : D → D → Option Bool} {op : CmpOp} (ho : HasCmp X (compareOp op) g) (ha : DE X W a m) (hb : DE X W b n) (hm : behindInMarks op b = false := by rfl) : DE X W (.Compare a [op] [b] pos) (mBl (mCmp g m n)) := by
  obtain ⟨r, ho, hg⟩ := ho
  refine PEimp (pe_cmpR ho ha hb hm) ?_
  rintro σ H Q ⟨G, ρ, S, st, p⟩
  rw [mBl_cmp] at p
  refine ⟨G, ρ, S, st, (PostO.bind p).imp fun d1 ρ1 G1 H1 S1 _ ⟨t1, p1⟩ v1 r1 => ⟨G1, ρ1, S1, t1.st, (PostO.bind p1).imp fun d2 ρ2 G2 H2 S2 _ ⟨t2, p2⟩ v2 r2 => ?_⟩⟩
  cases e : g d1 d2 with
  | none => rw [e] at p2; exact p2.elim
  | some d =>
    rw [e] at p2
    exact hg G2 H2 d1 d2 d v1 v2 _ t2.st.sub (r1.sub t2.sub) r2 e (p2 _ _ _ (Stp.refl t2.st) _ (.bl d))
theorem dt_chain {g g' : D → D → Option Bool} {op op' : CmpOp} (ho : HasCmp X (compareOp op) g) (ho' : HasCmp X (compareOp op') g') (ha : DE X W a m) (hb : DE X W b n) (hc : DE X W c k)
    (hm : lastMarks [op, op'] [b, c] = false := by with_unfolding_all rfl) : DT X W (.Compare a [op, op'] [b, c] pos) (mChain g g' m n k) := by
  obtain ⟨r, ho, hg⟩ := ho
  obtain ⟨r', ho', hg'⟩ := ho'
  refine PTimp (pt_chain ho ho' ha hb hc hm) ?_
  rintro σ H Q ⟨G, ρ, S, st, p⟩
  refine ⟨G, ρ, S, st, (PostO.bind p).imp fun d1 ρ1 G1 H1 S1 _ ⟨t1, p1⟩ v1 r1 => ⟨G1, ρ1, S1, t1.st, (PostO.bind p1).imp fun d2 ρ2 G2 H2 S2 _ ⟨t2, p2⟩ v2 r2 => ?_⟩⟩
  cases e : g d1 d2 with
  | none => rw [e] at p2; exact p2.elim
  | some d =>
    rw [e] at p2
    refine hg G2 H2 d1 d2 d v1 v2 _ t2.st.sub (r1.sub t2.sub) r2 e ⟨d, rfl, ?_⟩
    cases d with
    | false => exact ⟨false, rfl, p2 _ _ _ (Stp.refl t2.st)⟩
    | true =>
      refine ⟨G2, ρ2, S2, t2.st, (PostO.bind (o := k ρ2) p2).imp fun d3 ρ3 G3 H3 S3 _ ⟨t3, p3⟩ v3 r3 => ?_⟩
      obtain ⟨d, e, p4⟩ := PostO.opt p3
      exact hg' G3 H3 d2 d3 d v2 v3 _ t3.st.sub (r2.sub t3.sub) r3 e ⟨d, rfl, p4 _ _ _ (Stp.refl t3.st)⟩
theorem de_chain {g g' : D → D → Option Bool} {op op' : CmpOp} (ho : HasCmp X (compareOp op) g) (ho' : HasCmp X (compareOp op') g') (ha : DE X W a m) (hb : DE X W b n) (hc : DE X W c k)
    (hm : lastMarks [op, op'] [b, c] = false := by with_unfolding_all rfl) : DE X W (.Compare a [op, op'] [b, c] pos) (mBind m fun a => mBind n fun b => mBind (mOpt (g a b)) fun c => if c then mBind k fun d => mBind (mOpt (g' b d)) fun e => mPure (.bl e) else mPure (.bl false)) := by
  obtain ⟨r, ho, hg⟩ := ho
  obtain ⟨r', ho', hg'⟩ := ho'
  refine PEimp (pe_chain ho ho' ha hb hc hm) ?_
  rintro σ H Q ⟨G, ρ, S, st, p⟩
  refine ⟨G, ρ, S, st, (PostO.bind p).imp fun d1 ρ1 G1 H1 S1 _ ⟨t1, p1⟩ v1 r1 => ⟨G1, ρ1, S1, t1.st, (PostO.bind p1).imp fun d2 ρ2 G2 H2 S2 _ ⟨t2, p2⟩ v2 r2 => ?_⟩⟩
  cases e : g d1 d2 with
  | none => rw [e] at p2; exact p2.elim
  | some d =>
    rw [e] at p2
    refine hg G2 H2 d1 d2 d v1 v2 _ t2.st.sub (r1.sub t2.sub) r2 e ⟨d, rfl, ?_⟩
    cases d with
    | false => exact p2 _ _ _ (Stp.refl t2.st) _ (.bl false)
    | true =>
      refine ⟨G2, ρ2, S2, t2.st, (PostO.bind (o := k ρ2) p2).imp fun d3 ρ3 G3 H3 S3 _ ⟨t3, p3⟩ v3 r3 => ?_⟩
      cases e : g' d2 d3 with
      | none => rw [e] at p3; exact p3.elim
      | some d =>
        rw [e] at p3
        exact hg' G3 H3 d2 d3 d v2 v3 _ t3.st.sub (r2.sub t3.sub) r3 e (p3 _ _ _ (Stp.refl t3.st) _ (.bl d))
theorem RepL.isEmpty {K : PySem.W.Frag} {mg : Str → Option Value} {G : Hp} {ds : List D} {vs : List V} (h : RepL K mg G ds vs) : vs.isEmpty = ds.isEmpty := by cases h <;> rfl
theorem tru_rep {G H : Hp} {d : D} {v : V} {b : Bool} (s : Sub G H) (r : Rep X.K X.mg G d v) (e : dTru d = some b) : TruV X.K v H b := by
  cases r with
  | non => cases e; rfl
  | bl c => cases e; rfl
  | int i => cases e; rfl
  | str x =>
    simp only [dTru] at e
    split at e
    · rename_i h
      cases e
      refine ⟨h, ?_⟩
      by_cases q : x.length = 0
      · rw [q]; rfl
      · have q2 : (x.length : Int) ≠ 0 := by omega
        rw [bne_iff_ne.mpr q, bne_iff_ne.mpr q2]
    · cases e
  | lst h l => cases e; exact .inl ⟨_, .inl (.inl (s _ _ h)), by rw [l.isEmpty]⟩
  | rol h l => cases e; exact .inl ⟨_, sqL_rsub s.r h, by rw [l.isEmpty]⟩
  | tup h l => cases e; exact .inr (.inl ⟨_, sqT_rsub s.r h, by rw [l.isEmpty]⟩)
  | _ => cases e
theorem dt_tru (h : DE X W a m) (he : ∀ whole, isTrue a X.env whole = (do let v ← whole; standAt a.pos; holding [v] (truthy v)) := by intro _; rfl) : DT X W a (mTru m) := by
  refine PTimp (pt_truth h he) ?_
  rintro σ H Q ⟨G, ρ, S, st, p⟩
  refine ⟨G, ρ, S, st, (PostO.bind p).imp fun d ρ1 G1 H1 S1 _ ⟨t1, p1⟩ v r => ?_⟩
  obtain ⟨b, e, p2⟩ := PostO.opt p1
  exact ⟨b, tru_rep t1.st.sub r e, p2 _ _ _ (Stp.refl t1.st)⟩
abbrev DW (X : Cx) (W : WX) (e : Expr) (m : M Bool) : Prop := PW X e (rdT X.K X.mg W m)
theorem PWimp {e : Expr} {t t' : TT} (h : PW X e t) (i : ∀ σ H Q, t' σ H Q → t σ H Q) : PW X e t' := ⟨fun w pins s σ H Q I q => h.run w pins s σ H Q I (i _ _ _ q)⟩
variable {mb nb : M Bool} {rest : List Expr}
theorem dw_and1 (h : DT X W a mb) : DW X W (.BoolOp .And [a] pos) mb := pw_and1 h
theorem dw_or1 (h : DT X W a mb) : DW X W (.BoolOp .Or [a] pos) mb := pw_or1 h
theorem dw_and (h : DT X W a mb) (h2 : DW X W (.BoolOp .And (b :: rest) pos) nb) : DW X W (.BoolOp .And (a :: b :: rest) pos) (mAnd mb nb) := by
  refine PWimp (pw_and h h2) ?_
  rintro σ H Q ⟨G, ρ, S, st, p⟩
  refine ⟨G, ρ, S, st, (PostO.bind p).imp fun d ρ1 G1 H1 S1 _ ⟨t1, p1⟩ => ?_⟩
  cases d with
  | true => exact ⟨G1, ρ1, S1, t1.st, p1⟩
  | false => exact p1 _ _ _ (Stp.refl t1.st)
theorem dw_or (h : DT X W a mb) (h2 : DW X W (.BoolOp .Or (b :: rest) pos) nb) : DW X W (.BoolOp .Or (a :: b :: rest) pos) (mOr mb nb) := by
  refine PWimp (pw_or h h2) ?_
  rintro σ H Q ⟨G, ρ, S, st, p⟩
  refine ⟨G, ρ, S, st, (PostO.bind p).imp fun d ρ1 G1 H1 S1 _ ⟨t1, p1⟩ => ?_⟩
  cases d with
  | true => exact p1 _ _ _ (Stp.refl t1.st)
  | false => exact ⟨G1, ρ1, S1, t1.st, p1⟩
theorem dt_w (h : DW X W a mb) : DT X W a mb := h.pt
theorem dt_not (h : DT X W a mb) : DT X W (.UnaryOp .Not a pos) (mNot mb) := by
  refine PTimp (pt_not h) ?_
  rintro σ H Q ⟨G, ρ, S, st, p⟩
  refine ⟨G, ρ, S, st, (PostO.bind p).imp fun d ρ1 G1 H1 S1 _ ⟨t1, p1⟩ => p1 _ _ _ (Stp.refl t1.st)⟩
theorem de_one {op : BoolOp} (h : DE X W a m) : DE X W (.BoolOp op [a] pos) m := pe_one h
theorem de_and (h : DE X W a m) (h2 : DE X W (.BoolOp .And (b :: rest) pos) n) : DE X W (.BoolOp .And (a :: b :: rest) pos) (mAndV m n) := by
  refine PEimp (pe_andT h h2) ?_
  rintro σ H Q ⟨G, ρ, S, st, p⟩
  refine ⟨G, ρ, S, st, (PostO.bind p).imp fun d ρ1 G1 H1 S1 _ ⟨t1, p1⟩ v r => ?_⟩
  cases e : dTru d with
  | none => rw [e] at p1; exact p1.elim
  | some c =>
    rw [e] at p1
    refine ⟨c, tru_rep t1.st.sub r e, ?_⟩
    cases c with
    | true => exact ⟨G1, ρ1, S1, t1.st, p1⟩
    | false => exact p1 _ _ _ (Stp.refl t1.st) _ r
theorem de_or (h : DE X W a m) (h2 : DE X W (.BoolOp .Or (b :: rest) pos) n) : DE X W (.BoolOp .Or (a :: b :: rest) pos) (mOrV m n) := by
  refine PEimp (pe_orT h h2) ?_
  rintro σ H Q ⟨G, ρ, S, st, p⟩
  refine ⟨G, ρ, S, st, (PostO.bind p).imp fun d ρ1 G1 H1 S1 _ ⟨t1, p1⟩ v r => ?_⟩
  cases e : dTru d with
  | none => rw [e] at p1; exact p1.elim
  | some c =>
    rw [e] at p1
    refine ⟨c, tru_rep t1.st.sub r e, ?_⟩
    cases c with
    | false => exact ⟨G1, ρ1, S1, t1.st, p1⟩
    | true => exact p1 _ _ _ (Stp.refl t1.st) _ r
theorem de_not (h : DE X W a m) : DE X W (.UnaryOp .Not a pos) (mBl (mNot (mTru m))) := by
  refine PEimp (pe_notT h) ?_
  rintro σ H Q ⟨G, ρ, S, st, p⟩
  rw [mBl_not] at p
  refine ⟨G, ρ, S, st, (PostO.bind p).imp fun d ρ1 G1 H1 S1 _ ⟨t1, p1⟩ v r => ?_⟩
  cases e : dTru d with
  | none => rw [e] at p1; exact p1.elim
  | some c => rw [e] at p1; exact ⟨c, tru_rep t1.st.sub r e, p1 _ _ _ (Stp.refl t1.st) _ (.bl _)⟩
theorem de_ifExp {e1 e2 : Expr} (hc : DT X W c mb) (ha : DE X W a m) (hb : DE X W b n) : DE X W (.IfExp c a b pos) (mIte mb m n) := by
  refine PEimp (pe_ifExp hc ha hb) ?_
  rintro σ H Q ⟨G, ρ, S, st, p⟩
  refine ⟨G, ρ, S, st, (PostO.bind p).imp fun d ρ1 G1 H1 S1 _ ⟨t1, p1⟩ => ?_⟩
  cases d with
  | true => exact ⟨G1, ρ1, S1, t1.st, p1⟩
  | false => exact ⟨G1, ρ1, S1, t1.st, p1⟩

/-! ### calls of built-ins by values -/
def HasCall (X : Cx) (f : Value) (g : List D → Option D) : Prop := ∃ r, CallR X f r ∧ ∀ (G H : Hp) (ds : List D) (d : D) (xs : List V) (Q : VK), Sub G H → RepL X.K X.mg G ds xs → g ds = some d →
  (∀ G' H' v, Al G H G' H' → Rep X.K X.mg G' d v → Q v H') → r xs H Q
def mCall (g : List D → Option D) (m : M (List D)) : M D := mBind m fun ds => mOpt (g ds)
variable {e : Expr} {es : List Expr} {ma : M (List D)} {x : Str} {p : Pos}
theorem de_callB {id : String} {g : List D → Option D} (h : HasCall X (.builtin id) g) (hm : X.mg x = none) (hv : bootBuiltins x = some (.builtin id)) (ha : DA X W (e :: es) ma) (hg : Gl X x := by rfl) (hn : x ≠ "__name__" := by decide) (hdb : (x == ("__debug__" : Str)) = false := by decide)
    (he : starEach (e :: es) X.env = (false, eval e X.env) :: starEach es X.env := by rfl) (hpl : (backTo pos (starEach es X.env)).any (·.1) = false := by rfl) : DE X W (.Call (.Name x p) (e :: es) [] pos) (mCall g ma) := by
  obtain ⟨r, hc, hr⟩ := h
  refine PEimp (pe_callB hc hg hm hv ha hn hdb he hpl) ?_
  rintro σ H Q ⟨G, ρ, S, st, p⟩
  refine ⟨G, ρ, S, st, (PostO.bind p).imp fun ds ρ1 G1 H1 S1 _ ⟨t1, p1⟩ vs rs => ?_⟩
  obtain ⟨d, e, p2⟩ := PostO.opt p1
  exact hr G1 H1 ds d vs Q t1.st.sub rs e fun G' H' v al rv => p2 _ _ _ (al.stp t1.st) _ rv
theorem de_callTy {id : String} {g : List D → Option D} (h : HasCall X (.type id) g) (hm : X.mg x = none) (hv : bootBuiltins x = some (.type id)) (ha : DA X W (e :: es) ma) (hg : Gl X x := by rfl) (hn : x ≠ "__name__" := by decide) (hdb : (x == ("__debug__" : Str)) = false := by decide)
    (he : starEach (e :: es) X.env = (false, eval e X.env) :: starEach es X.env := by rfl) (hpl : (backTo pos (starEach es X.env)).any (·.1) = false := by rfl) : DE X W (.Call (.Name x p) (e :: es) [] pos) (mCall g ma) := by
  obtain ⟨r, hc, hr⟩ := h
  refine PEimp (pe_callTy hc hg hm hv ha hn hdb he hpl) ?_
  rintro σ H Q ⟨G, ρ, S, st, p⟩
  refine ⟨G, ρ, S, st, (PostO.bind p).imp fun ds ρ1 G1 H1 S1 _ ⟨t1, p1⟩ vs rs => ?_⟩
  obtain ⟨d, e, p2⟩ := PostO.opt p1
  exact hr G1 H1 ds d vs Q t1.st.sub rs e fun G' H' v al rv => p2 _ _ _ (al.stp t1.st) _ rv
end
end FW

set_option Elab.async false
set_option linter.all false
set_option maxRecDepth 100000
set_option maxHeartbeats 400000
/-! FW3: the operators and comparisons that there are. -/
namespace FW
open PySem PySem.Spec L2
variable [Tc]

def dI2 (f : Int → Int → Int) : D → D → Option D | .int i, .int j => some (.int (f i j)) | _, _ => none
def dI2c (c : Int → Int → Bool) (f : Int → Int → Int) : D → D → Option D | .int i, .int j => if c i j then some (.int (f i j)) else none | _, _ => none
def dAdd : D → D → Option D
  | .int i, .int j => some (.int (i + j))
  | .str x, .str y => if x.length + y.length ≤ sizeLine then some (.str (x ++ y)) else none
  | .lst x, .lst y => if x.length + y.length ≤ sizeLine then some (.lst (x ++ y)) else none
  | .tup x, .tup y => if x.length + y.length ≤ sizeLine then some (.tup (x ++ y)) else none
  | _, _ => none
def dSub : D → D → Option D := dI2 fun i j => i - j
def dMul : D → D → Option D
  | .int i, .int j => if (decide (i.natAbs < 18446744073709551616) || decide (j.natAbs < 18446744073709551616)) then some (.int (i * j)) else none
  | _, _ => none
def dDiv : D → D → Option D := dI2c (fun _ j => decide (0 < j) && decide (j.natAbs.log2 < 9000)) fun i j => i / j
def dMod : D → D → Option D := dI2c (fun _ j => decide (0 < j)) fun i j => i % j
def dPow : D → D → Option D := dI2c (fun i j => decide (0 ≤ j) && decide (j ≤ 1000000) && decide (i.natAbs < 18446744073709551616)) fun i j => i ^ j.toNat
def dXor : D → D → Option D := dI2 Builtin.bitXor
section
variable {X : Cx}
theorem opI_has {f : Value → Value → Sem Value} {g : Int → Int → Int} {C : Int → Int → Prop} {c : Int → Int → Bool} (h : OpR X f (rI C fun i j => .int (g i j))) (hc : ∀ i j, c i j = true → C i j) : HasOp X f (dI2c c g) := by
  refine ⟨_, h, fun G H a b d x y Q s ra rb e q => ?_⟩
  cases ra with
  | int i =>
    cases rb with
    | int j =>
      simp only [dI2c] at e
      split at e
      · rename_i h
        cases e
        exact ⟨i, j, rfl, rfl, hc i j h, q G H _ (Al.refl s) (.int _)⟩
      · cases e
    | _ => cases e
  | _ => cases e
theorem opI_has0 {f : Value → Value → Sem Value} {g : Int → Int → Int} (h : OpR X f (rI0 fun i j => .int (g i j))) : HasOp X f (dI2 g) := by
  refine ⟨_, h, fun G H a b d x y Q s ra rb e q => ?_⟩
  cases ra with
  | int i =>
    cases rb with
    | int j => cases e; exact ⟨i, j, rfl, rfl, q G H _ (Al.refl s) (.int _)⟩
    | _ => cases e
  | _ => cases e
theorem o_sub : HasOp X (binaryOp .Sub) dSub := opI_has0 op_sub
theorem o_xor : HasOp X (binaryOp .BitXor) dXor := opI_has0 op_xor
theorem o_div : HasOp X (binaryOp .FloorDiv) dDiv := opI_has op_fdivW fun i j h => by simpa [CDivW] using h
theorem o_mod : HasOp X (binaryOp .Mod) dMod := opI_has op_mod fun i j h => by simpa using h
theorem o_pow : HasOp X (binaryOp .Pow) dPow := opI_has op_pow fun i j h => by simp [CPow] at h ⊢; omega
theorem o_mul : HasOp X (binaryOp .Mult) dMul := by
  refine ⟨_, op_mul, fun G H a b d x y Q s ra rb e q => ?_⟩
  cases ra with
  | int i =>
    cases rb with
    | int j =>
      simp only [dMul] at e
      split at e
      · rename_i h
        cases e
        refine ⟨i, j, rfl, rfl, ?_, q G H _ (Al.refl s) (.int _)⟩
        simp only [Bool.or_eq_true, decide_eq_true_eq] at h
        unfold CMul
        omega
      · cases e
    | _ => cases e
  | _ => cases e
theorem o_add : HasOp X (binaryOp .Add) dAdd := by
  refine ⟨_, OpR.or op_add (OpR.or op_add_str (OpR.or op_cat op_catA)), fun G H a b d x y Q s ra rb e q => ?_⟩
  cases ra with
  | int i =>
    cases rb with
    | int j => cases e; exact .inl ⟨i, j, rfl, rfl, q G H _ (Al.refl s) (.int _)⟩
    | _ => cases e
  | str i =>
    cases rb with
    | str j =>
      simp only [dAdd] at e
      split at e
      · rename_i h; cases e
        exact .inr (.inl ⟨i, j, rfl, rfl, h, q G H _ (Al.refl s) (.str _)⟩)
      · cases e
    | _ => cases e
  | @lst xs1 a1 w1 h1 l1 =>
    cases rb with
    | @lst xs2 a2 w2 h2 l2 =>
      simp only [dAdd] at e
      split at e
      · rename_i h; cases e
        refine .inr (.inr (.inl ⟨_, _, _, _, rfl, rfl, s _ _ h1, s _ _ h2, by rw [← l1.length, ← l2.length]; exact h, fun p hp => ?_⟩))
        have al := Al.new (o := .lst (w1 ++ w2)) s hp
        exact q _ _ _ al (.lst upd_same ((l1.sub al.sub).append (l2.sub al.sub)))
      · cases e
    | _ => cases e
  | @tup xs1 a1 w1 h1 l1 =>
    cases rb with
    | @tup xs2 a2 w2 h2 l2 =>
      simp only [dAdd] at e
      split at e
      · rename_i h; cases e
        refine .inr (.inr (.inr ⟨_, _, _, _, rfl, rfl, sqT_rsub s.r h1, sqT_rsub s.r h2, by rw [← l1.length, ← l2.length]; exact h, fun z => ?_, fun z1 z2 => ?_, fun z1 z2 p hp => ?_⟩))
        · subst z
          cases l1
          exact q G H _ (Al.refl s) (.tup h2 l2)
        · subst z2
          cases l2
          have q := q G H (.ref a1) (Al.refl s)
          rw [List.append_nil] at q
          exact q (.tup h1 l1)
        · have al := Al.new (o := .tup (w1 ++ w2)) s hp
          exact q _ _ _ al (.tup (.inl (.inl upd_same)) ((l1.sub al.sub).append (l2.sub al.sub)))
      · cases e
    | _ => cases e
  | _ => cases e

/-! ### comparisons -/
mutual
def D.py : D → Option PyData
  | .non => some .none | .bl b => some (.bool b) | .int i => some (.int i) | .str s => some (.str s)
  | .lst xs => (D.pyL xs).map .list | .rol xs => (D.pyL xs).map .list | .tup xs => (D.pyL xs).map .tuple | _ => none
def D.pyL : List D → Option (List PyData)
  | [] => some [] | x :: xs => match D.py x, D.pyL xs with | some a, some b => some (a :: b) | _, _ => none
end
mutual
theorem Rep.dp {K : PySem.W.Frag} {mg : Str → Option Value} {G : Hp} : ∀ (d : D) (v : V) (p : PyData), Rep K mg G d v → d.py = some p → Dp K G v p
  | .non, _, _, h, e => by cases h; cases e; exact .non
  | .bl b, _, _, h, e => by cases h; cases e; exact .bl b
  | .int i, _, _, h, e => by cases h; cases e; exact .int i
  | .str x, _, _, h, e => by cases h; cases e; exact .str x
  | .lst xs, _, _, h, e => by
    cases h with
    | lst h l =>
      simp only [D.py] at e
      cases q : D.pyL xs with
      | none => rw [q] at e; cases e
      | some ps => rw [q] at e; cases e; exact .lst (.inl (.inl h)) (RepL.dp xs _ _ l q)
  | .rol xs, _, _, h, e => by
    cases h with
    | rol h l =>
      simp only [D.py] at e
      cases q : D.pyL xs with
      | none => rw [q] at e; cases e
      | some ps => rw [q] at e; cases e; exact .lst h (RepL.dp xs _ _ l q)
  | .tup xs, _, _, h, e => by
    cases h with
    | tup h l =>
      simp only [D.py] at e
      cases q : D.pyL xs with
      | none => rw [q] at e; cases e
      | some ps => rw [q] at e; cases e; exact .tup h (RepL.dp xs _ _ l q)
  | .dK kvs, _, _, h, e => by simp only [D.py] at e; cases e
  | .exc n fs, _, _, h, e => by simp only [D.py] at e; cases e
  | .cls n, _, _, h, e => by simp only [D.py] at e; cases e
theorem RepL.dp {K : PySem.W.Frag} {mg : Str → Option Value} {G : Hp} : ∀ (ds : List D) (vs : List V) (ps : List PyData), RepL K mg G ds vs → D.pyL ds = some ps → DpAll K G vs ps
  | [], _, _, h, e => by cases h; simp only [D.pyL] at e; cases e; exact .nil
  | d :: ds, _, _, h, e => by
    cases h with
    | cons h l =>
      simp only [D.pyL] at e
      cases q : D.py d with
      | none => rw [q] at e; simp at e
      | some a =>
        cases q2 : D.pyL ds with
        | none => rw [q, q2] at e; simp at e
        | some b => rw [q, q2] at e; cases e; exact .cons (Rep.dp d _ _ h q) (RepL.dp ds _ _ l q2)
end
/-- plain data, not too deep -/
def shp (d : PyData) : Bool := d.plain && decide (d.depth ≤ 64)
theorem shp_room {A : Around} {x y : PyData} (h : shp x = true) (hu : A.units + 64 < cLine) : A.units + min x.depth y.depth < cLine := by
  unfold shp at h
  simp only [Bool.and_eq_true, decide_eq_true_eq] at h
  have := Nat.min_le_left x.depth y.depth
  omega
theorem shp_plain {x : PyData} (h : shp x = true) : x.plain = true := by
  unfold shp at h
  simp only [Bool.and_eq_true] at h
  exact h.1
/-- both are plain data, not too deep: whether they are equal -/
def dEq (a b : D) : Option Bool := match a.py, b.py with
  | some x, some y => if (shp x && shp y) then some (PyData.eqv x y) else none
  | _, _ => none
def dNe (a b : D) : Option Bool := (dEq a b).map (!·)
theorem dEq_some {a b : D} {c : Bool} (e : dEq a b = some c) : ∃ x y, a.py = some x ∧ b.py = some y ∧ shp x = true ∧ shp y = true ∧ c = PyData.eqv x y := by
  unfold dEq at e
  cases p : a.py with
  | none => rw [p] at e; cases e
  | some x =>
    cases q : b.py with
    | none => rw [p, q] at e; cases e
    | some y =>
      rw [p, q] at e
      simp only at e
      split at e
      · rename_i h
        simp only [Bool.and_eq_true] at h
        cases e
        exact ⟨x, y, rfl, rfl, h.1, h.2, rfl⟩
      · cases e
def rEqP (K : PySem.W.Frag) : R2 := fun x y H Q => ∃ d e, Dp K H x d ∧ Dp K H y e ∧ shp d = true ∧ shp e = true ∧ Q (.bl (PyData.eqv d e)) H
def rNeP (K : PySem.W.Frag) : R2 := fun x y H Q => ∃ d e, Dp K H x d ∧ Dp K H y e ∧ shp d = true ∧ shp e = true ∧ Q (.bl (!PyData.eqv d e)) H
theorem op_eqP (hu : X.A.units + 64 < cLine) : OpR X (compareOp .Eq) (rEqP X.K) := fun _ _ _ H _ _ _ _ _ I rx ry ⟨_, _, dx, dy, sx, sy, fin⟩ =>
  have ⟨_, readX⟩ := Dp.reads I _ _ _ dx rx
  have ⟨_, readY⟩ := Dp.reads I _ _ _ dy ry
  SeqAt.eq_plain readX readY (shp_plain sx) (shp_plain sy) (shp_room sx hu) ⟨.bl _, H, I, rfl, fin⟩
theorem op_neP (hu : X.A.units + 64 < cLine) : OpR X (compareOp .NotEq) (rNeP X.K) := fun _ _ _ H _ _ _ _ _ I rx ry ⟨_, _, dx, dy, sx, sy, fin⟩ =>
  have ⟨_, readX⟩ := Dp.reads I _ _ _ dx rx
  have ⟨_, readY⟩ := Dp.reads I _ _ _ dy ry
  SeqAt.ne_plain readX readY (shp_plain sx) (shp_plain sy) (shp_room sx hu) ⟨.bl _, H, I, rfl, fin⟩
theorem o_eq (hu : X.A.units + 64 < cLine) : HasCmp X (compareOp .Eq) dEq := by
  refine ⟨_, op_eqP hu, fun G H a b c x y Q s ra rb e q => ?_⟩
  obtain ⟨d1, d2, e1, e2, s1, s2, rfl⟩ := dEq_some e
  exact ⟨d1, d2, (ra.sub s).dp _ _ _ e1, (rb.sub s).dp _ _ _ e2, s1, s2, q⟩
theorem o_ne (hu : X.A.units + 64 < cLine) : HasCmp X (compareOp .NotEq) dNe := by
  refine ⟨_, op_neP hu, fun G H a b c x y Q s ra rb e q => ?_⟩
  unfold dNe at e
  cases w : dEq a b with
  | none => rw [w] at e; cases e
  | some z =>
    rw [w] at e; cases e
    obtain ⟨d1, d2, e1, e2, s1, s2, rfl⟩ := dEq_some w
    exact ⟨d1, d2, (ra.sub s).dp _ _ _ e1, (rb.sub s).dp _ _ _ e2, s1, s2, q⟩
def dCmpI (f : Int → Int → Bool) : D → D → Option Bool | .int i, .int j => some (f i j) | _, _ => none
theorem cmpI_has {f : Value → Value → Sem Value} {g : Int → Int → Bool} (h : OpR X f (rI0 fun i j => .bl (g i j))) : HasCmp X f (dCmpI g) := by
  refine ⟨_, h, fun G H a b c x y Q s ra rb e q => ?_⟩
  cases ra with
  | int i =>
    cases rb with
    | int j => cases e; exact ⟨i, j, rfl, rfl, q⟩
    | _ => cases e
  | _ => cases e
def dLt := dCmpI fun i j => decide (i < j)
def dLe := dCmpI fun i j => decide (i ≤ j)
def dGt := dCmpI fun i j => decide (j < i)
def dGe := dCmpI fun i j => decide (j ≤ i)
theorem o_lt : HasCmp X (compareOp .Lt) dLt := cmpI_has op_lt
theorem o_le : HasCmp X (compareOp .LtE) dLe := cmpI_has op_le
theorem o_gt : HasCmp X (compareOp .Gt) dGt := cmpI_has op_gt
theorem o_ge : HasCmp X (compareOp .GtE) dGe := cmpI_has op_ge
/-- is None, is True, is False -/
def dIs : D → D → Option Bool
  | .non, .non => some true | .bl a, .bl b => some (a == b) | .non, .bl _ => some false | .bl _, .non => some false
  | _, .non => some false | _, .bl _ => some false | _, _ => none
def dIsN (a b : D) : Option Bool := (dIs a b).map (!·)
/-- what is no bool stands for no bool -/
theorem no_bool {x : V} {v : Value} {b : Bool} (r : RelV x v) (n : ∀ c, x ≠ .bl c) : plainIs v (.bool b) = true ∧ v ≠ .bool b ∧ decide (x = .bl b) = false := by
  have two : plainIs v (.bool b) = true ∧ v ≠ .bool b := by
    cases x with
    | bl c => exact absurd rfl (n c)
    | non => obtain rfl : v = .none := r; exact ⟨rfl, fun z => nomatch z⟩
    | ref i => obtain rfl : v = .ref i := r; exact ⟨rfl, fun z => nomatch z⟩
    | ty i => obtain rfl : v = .type i := r; exact ⟨rfl, fun z => nomatch z⟩
    | _ => obtain ⟨_, rfl⟩ := r; exact ⟨rfl, fun z => nomatch z⟩
  exact ⟨two.1, two.2, decide_eq_false (n b)⟩
theorem op_isB : OpR X (compareOp .Is) (fun x y H Q => ∃ b, y = .bl b ∧ Q (.bl (decide (x = .bl b))) H) := fun _ _ _ H x _ _ u _ I rx ry ⟨b, ey, q⟩ => by
  subst ey
  obtain rfl : u = Value.bool b := ry
  by_cases bools : ∃ c, x = .bl c
  · obtain ⟨c, rfl⟩ := bools
    obtain rfl := (rx : _ = Value.bool c)
    by_cases same : c = b
    · subst same
      exact wpAny_is_self rfl ⟨.bl true, H, I, rfl, by simpa using q⟩
    · exact wpAny_is_other rfl (fun z => same (Value.bool.inj z)) ⟨.bl false, H, I, rfl, by simpa [same] using q⟩
  · obtain ⟨n0, n1, n2⟩ := no_bool (b := b) rx fun c z => bools ⟨c, z⟩
    rw [n2] at q
    exact wpAny_is_other n0 n1 ⟨.bl false, H, I, rfl, q⟩
theorem op_notB : OpR X (compareOp .IsNot) (fun x y H Q => ∃ b, y = .bl b ∧ Q (.bl (!decide (x = .bl b))) H) := fun _ _ _ H x _ _ u _ I rx ry ⟨b, ey, q⟩ => by
  subst ey
  obtain rfl : u = Value.bool b := ry
  by_cases bools : ∃ c, x = .bl c
  · obtain ⟨c, rfl⟩ := bools
    obtain rfl := (rx : _ = Value.bool c)
    by_cases same : c = b
    · subst same
      exact wpAny_isNot_self rfl ⟨.bl false, H, I, rfl, by simpa using q⟩
    · exact wpAny_isNot_other rfl (fun z => same (Value.bool.inj z)) ⟨.bl true, H, I, rfl, by simpa [same] using q⟩
  · obtain ⟨n0, n1, n2⟩ := no_bool (b := b) rx fun c z => bools ⟨c, z⟩
    rw [n2] at q
    exact wpAny_isNot_other n0 n1 ⟨.bl true, H, I, rfl, q⟩
theorem isN_rep {G : Hp} {a : D} {x : V} {c : Bool} (ra : Rep X.K X.mg G a x) (e : dIs a .non = some c) : decide (x = .non) = c := by
  cases ra <;> cases e <;> rfl
theorem isB_rep {G : Hp} {a : D} {x : V} {b c : Bool} (ra : Rep X.K X.mg G a x) (e : dIs a (.bl b) = some c) : decide (x = .bl b) = c := by
  cases ra with
  | bl d => cases e; cases d <;> cases b <;> rfl
  | _ => cases e; rfl
theorem o_is : HasCmp X (compareOp .Is) dIs := by
  refine ⟨_, OpR.or op_isN op_isB, fun G H a b c x y Q s ra rb e q => ?_⟩
  cases rb with
  | non => exact .inl ⟨rfl, by rw [isN_rep ra e]; exact q⟩
  | bl b => exact .inr ⟨b, rfl, by rw [isB_rep ra e]; exact q⟩
  | _ => cases ra <;> cases e
theorem o_isN : HasCmp X (compareOp .IsNot) dIsN := by
  refine ⟨_, OpR.or op_notN op_notB, fun G H a b c x y Q s ra rb e q => ?_⟩
  unfold dIsN at e
  cases w : dIs a b with
  | none => rw [w] at e; cases e
  | some z =>
    rw [w] at e; cases e
    cases rb with
    | non => exact .inl ⟨rfl, by rw [isN_rep ra w]; exact q⟩
    | bl b => exact .inr ⟨b, rfl, by rw [isB_rep ra w]; exact q⟩
    | _ => cases ra <;> cases w
/-- a flat value -/
def D.fl : D → Option V
  | .non => some .non | .bl b => some (.bl b) | .int i => some (.int i) | .str s => some (.str s) | _ => none
def D.flL : List D → Option (List V)
  | [] => some []
  | x :: xs => match x.fl, D.flL xs with | some v, some vs => some (v :: vs) | _, _ => none
theorem fl_rep {G : Hp} {a : D} {x v : V} (ra : Rep X.K X.mg G a x) (e : a.fl = some v) : x = v ∧ flatV v = true := by
  cases ra <;> cases e <;> exact ⟨rfl, rfl⟩
theorem flL_rep {G : Hp} : ∀ {as : List D} {xs vs : List V}, RepL X.K X.mg G as xs → D.flL as = some vs → xs = vs ∧ vs.all flatV = true
  | [], _, _, .nil, e => by cases e; exact ⟨rfl, rfl⟩
  | a :: as, _, _, .cons h l, e => by
    simp only [D.flL] at e
    cases q : a.fl with
    | none => rw [q] at e; simp at e
    | some v =>
      cases q2 : D.flL as with
      | none => rw [q, q2] at e; simp at e
      | some w =>
        rw [q, q2] at e; cases e
        obtain ⟨rfl, h1⟩ := fl_rep h q
        obtain ⟨rfl, h2⟩ := flL_rep l q2
        exact ⟨rfl, by simp [h1, h2]⟩
def dInS (x : D) (ys : List D) : Option Bool := match x.fl, D.flL ys with | some v, some vs => some (inV v vs) | _, _ => none
def dIn : D → D → Option Bool
  | x, .lst ys => dInS x ys | x, .rol ys => dInS x ys | x, .tup ys => dInS x ys
  | .str a, .str b => some (!(Builtin.Str.occurrences b a 0 b.length 1).isEmpty)
  | _, _ => none
def dNotIn (a b : D) : Option Bool := (dIn a b).map (!·)
theorem dInS_some {x : D} {ys : List D} {c : Bool} (e : dInS x ys = some c) : ∃ v vs, x.fl = some v ∧ D.flL ys = some vs ∧ c = inV v vs := by
  unfold dInS at e
  cases p : x.fl with
  | none => rw [p] at e; cases e
  | some v =>
    cases q : D.flL ys with
    | none => rw [p, q] at e; cases e
    | some vs => rw [p, q] at e; cases e; exact ⟨v, vs, rfl, rfl, rfl⟩
theorem in_rep {G H : Hp} {a b : D} {x y : V} {c : Bool} (s : Sub G H) (ra : Rep X.K X.mg G a x) (rb : Rep X.K X.mg G b y) (e : dIn a b = some c) :
    (∃ p xs, y = .ref p ∧ (SqL X.K H p xs ∨ SqT X.K H p xs) ∧ flatV x = true ∧ xs.all flatV = true ∧ c = inV x xs) ∨ ∃ i j, x = .str i ∧ y = .str j ∧ c = (!(Builtin.Str.occurrences j i 0 j.length 1).isEmpty) := by
  cases rb with
  | @lst ys _ _ h l =>
    have e : dInS a ys = some c := by cases a <;> exact e
    obtain ⟨v, vs, e1, e2, rfl⟩ := dInS_some e
    obtain ⟨rfl, f1⟩ := fl_rep ra e1
    obtain ⟨rfl, f2⟩ := flL_rep l e2
    exact .inl ⟨_, _, rfl, .inl (.inl (.inl (s _ _ h))), f1, f2, rfl⟩
  | @rol ys _ _ h l =>
    have e : dInS a ys = some c := by cases a <;> exact e
    obtain ⟨v, vs, e1, e2, rfl⟩ := dInS_some e
    obtain ⟨rfl, f1⟩ := fl_rep ra e1
    obtain ⟨rfl, f2⟩ := flL_rep l e2
    exact .inl ⟨_, _, rfl, .inl (sqL_rsub s.r h), f1, f2, rfl⟩
  | @tup ys _ _ h l =>
    have e : dInS a ys = some c := by cases a <;> exact e
    obtain ⟨v, vs, e1, e2, rfl⟩ := dInS_some e
    obtain ⟨rfl, f1⟩ := fl_rep ra e1
    obtain ⟨rfl, f2⟩ := flL_rep l e2
    exact .inl ⟨_, _, rfl, .inr (sqT_rsub s.r h), f1, f2, rfl⟩
  | str j =>
    cases ra with
    | str i => cases e; exact .inr ⟨i, j, rfl, rfl, rfl⟩
    | _ => cases e
  | _ => cases a <;> cases e
theorem o_in : HasCmp X (compareOp .In) dIn := by
  refine ⟨_, OpR.or op_in_seq op_in_str, fun G H a b c x y Q s ra rb e q => ?_⟩
  rcases in_rep s ra rb e with ⟨p, xs, h1, h2, h3, h4, rfl⟩ | ⟨i, j, h1, h2, rfl⟩
  · exact .inl ⟨p, xs, h1, h2, h3, h4, q⟩
  · exact .inr ⟨i, j, h1, h2, q⟩
theorem o_notIn : HasCmp X (compareOp .NotIn) dNotIn := by
  refine ⟨_, OpR.or op_notIn_seq op_notIn_str, fun G H a b c x y Q s ra rb e q => ?_⟩
  unfold dNotIn at e
  cases w : dIn a b with
  | none => rw [w] at e; cases e
  | some z =>
    rw [w] at e; cases e
    rcases in_rep s ra rb w with ⟨p, xs, h1, h2, h3, h4, rfl⟩ | ⟨i, j, h1, h2, rfl⟩
    · exact .inl ⟨p, xs, h1, h2, h3, h4, q⟩
    · exact .inr ⟨i, j, h1, h2, q⟩
end
end FW

set_option Elab.async false
set_option linter.all false
set_option maxRecDepth 100000
set_option maxHeartbeats 400000
/-! FW4: statements, targets, loops. -/
namespace FW
open PySem PySem.Spec L2
variable [Tc]

/-- a statement's end -/
inductive Fl where
  | nx (ρ : Env) | rt (d : D) (ρ : Env) | bk (ρ : Env) | ct (ρ : Env) | err (n : Str) (fs : List (Str × D)) (ρ : Env) | bad
abbrev MS := Env → Fl
/-- only the slots vs differ -/
def Only (vs : List Nat) (σ σ' : Sg) : Prop := σ'.length = σ.length ∧ ∀ j, j ∉ vs → σ'[j]? = σ[j]?
theorem Only.refl (vs : List Nat) (σ : Sg) : Only vs σ σ := ⟨rfl, fun _ _ => rfl⟩
theorem Only.trans {vs ws : List Nat} {σ σ1 σ2 : Sg} (x : Only vs σ σ1) (y : Only ws σ1 σ2) : Only (vs ++ ws) σ σ2 :=
  ⟨y.1.trans x.1, fun j h => by simp only [List.mem_append, not_or] at h; exact (y.2 j h.2).trans (x.2 j h.1)⟩
section
variable (K : PySem.W.Frag) (mg : Str → Option Value) (W : WX)
def PostS (G H : Hp) (S : List Addr) (σ : Sg) (ρ : Env) (o : Fl) (E : Ends) : Prop := match o with
  | .nx ρ' => ∀ G' H' S' σ', Stp K mg G H S σ ρ G' H' S' σ' ρ' → E.nx σ' H'
  | .rt d ρ' => ∀ G' H' S' σ' v, Stp K mg G H S σ ρ G' H' S' σ' ρ' → Rep K mg G' d v → E.rt v H'
  | .bk ρ' => ∀ G' H' S' σ', Stp K mg G H S σ ρ G' H' S' σ' ρ' → E.bk σ' H'
  | .ct ρ' => ∀ G' H' S' σ', Stp K mg G H S σ ρ G' H' S' σ' ρ' → E.ct σ' H'
  | .err n fs ρ' => ∀ G' H' S' σ' c dd, Stp K mg G H S σ ρ G' H' S' σ' ρ' → ErrIs K mg G' n fs c dd → W c dd σ' H'
  | .bad => False
def rdS (m : MS) : TS := fun D σ H => ∃ G ρ S, StOk K mg G H σ ρ S ∧ PostS K mg W G H S σ ρ (m ρ) D
def rdG (vs : List Nat) (g : D → Env → Option Env) : TG := fun v σ H Q => ∃ G ρ S d ρ', StOk K mg G H σ ρ S ∧ Rep K mg G d v ∧ g d ρ = some ρ' ∧ ∀ G' H' S' σ', Stp K mg G H S σ ρ G' H' S' σ' ρ' → Only vs σ σ' → Q σ' H'
def rdGs (vs : List Nat) (g : List D → Env → Option Env) : TGs := fun v σ H Q => ∃ G ρ S d ρ', StOk K mg G H σ ρ S ∧ RepL K mg G d v ∧ g d ρ = some ρ' ∧ ∀ G' H' S' σ', Stp K mg G H S σ ρ G' H' S' σ' ρ' → Only vs σ σ' → Q σ' H'
end
abbrev DS (X : Cx) (W : WX) (s : Stmt) (m : MS) : Prop := PS X s (rdS X.K X.mg W m)
abbrev DSs (X : Cx) (W : WX) (s : List Stmt) (m : MS) : Prop := PSs X s (rdS X.K X.mg W m)
abbrev DG (X : Cx) (e : Expr) (vs : List Nat) (g : D → Env → Option Env) : Prop := PG X e (rdG X.K X.mg vs g)
abbrev DGs (X : Cx) (e : List Expr) (vs : List Nat) (g : List D → Env → Option Env) : Prop := PGs X e (rdGs X.K X.mg vs g)
theorem PSimp {X : Cx} {e : Stmt} {t t' : TS} (h : PS X e t) (i : ∀ D σ H, t' D σ H → t D σ H) : PS X e t' := ⟨fun pins s σ H D I q => h.run pins s σ H D I (i _ _ _ q)⟩
theorem PSsimp {X : Cx} {e : List Stmt} {t t' : TS} (h : PSs X e t) (i : ∀ D σ H, t' D σ H → t D σ H) : PSs X e t' := ⟨fun pins s σ H D I q => h.run pins s σ H D I (i _ _ _ q)⟩
theorem PGimp {X : Cx} {e : Expr} {t t' : TG} (h : PG X e t) (i : ∀ v σ H Q, t' v σ H Q → t v σ H Q) : PG X e t' := ⟨fun pins s σ H v u Q I r q => h.run pins s σ H v u Q I r (i _ _ _ _ q)⟩
theorem PGsimp {X : Cx} {e : List Expr} {t t' : TGs} (h : PGs X e t) (i : ∀ v σ H Q, t' v σ H Q → t v σ H Q) : PGs X e t' := ⟨fun pins s σ H v u Q I r q => h.run pins s σ H v u Q I r (i _ _ _ _ q)⟩

section
variable {K : PySem.W.Frag} {mg : Str → Option Value} {W : WX} {G H G1 H1 : Hp} {S S1 : List Addr} {σ σ1 : Sg} {ρ ρ1 : Env}
theorem PostS.from {o : Fl} {E : Ends} (s : Stp K mg G H S σ ρ G1 H1 S1 σ1 ρ1) (h : PostS K mg W G H S σ ρ o E) : PostS K mg W G1 H1 S1 σ1 ρ1 o E := by
  cases o with
  | nx ρ' => exact fun G' H' S' σ' t => h G' H' S' σ' (s.trans t)
  | rt d ρ' => exact fun G' H' S' σ' v t => h G' H' S' σ' v (s.trans t)
  | bk ρ' => exact fun G' H' S' σ' t => h G' H' S' σ' (s.trans t)
  | ct ρ' => exact fun G' H' S' σ' t => h G' H' S' σ' (s.trans t)
  | err n fs ρ' => exact fun G' H' S' σ' c dd t => h G' H' S' σ' c dd (s.trans t)
  | bad => exact h
end
/-- an expression's end as a statement's -/
def Out.fl {α : Type} (o : Out α) (k : α → Env → Fl) : Fl := match o with
  | .ok a ρ => k a ρ | .err n fs ρ => .err n fs ρ | .bad => .bad
theorem PostO.fl {α : Type} {K : PySem.W.Frag} {mg : Str → Option Value} {W : WX} {G H : Hp} {S : List Addr} {σ : Sg} {ρ : Env} {o : Out α} {k : α → Env → Fl} {E : Ends} (h : PostS K mg W G H S σ ρ (o.fl k) E) :
    PostO K mg W G H S σ ρ o fun a ρ1 G1 H1 S1 => Stp K mg G H S σ ρ G1 H1 S1 σ ρ1 ∧ PostS K mg W G1 H1 S1 σ ρ1 (k a ρ1) E := by
  cases o with
  | ok a ρ' => exact fun G' H' S' t => ⟨t, PostS.from t h⟩
  | err n fs ρ' => exact fun G' H' S' c dd t e => h G' H' S' σ c dd t e
  | bad => exact h
theorem PostO.fl0 {α : Type} {K : PySem.W.Frag} {mg : Str → Option Value} {W : WX} {G H : Hp} {S : List Addr} {σ : Sg} {ρ : Env} {o : Out α} {k : α → Env → Fl} {E : Ends} (h : PostS K mg W G H S σ ρ (o.fl k) E) :
    PostO K mg W G H S σ ρ o fun a ρ1 G1 H1 S1 => Stp K mg G H S σ ρ G1 H1 S1 σ ρ1 ∧ PostS K mg W G H S σ ρ (k a ρ1) E := by
  cases o with
  | ok a ρ' => exact fun G' H' S' t => ⟨t, h⟩
  | err n fs ρ' => exact fun G' H' S' c dd t e => h G' H' S' σ c dd t e
  | bad => exact h
/-! ### a slot is set -/
def put (ρ : Env) (i : Nat) (s : Sl) : Option Env := if i < ρ.length then some (ρ.set i s) else none
section
variable {K : PySem.W.Frag} {mg : Str → Option Value} {G H G0 H0 : Hp} {S S0 : List Addr} {σ σ0 : Sg} {ρ ρ0 ρ' : Env}
/-- a value with its own fresh addresses T comes into slot i -/
theorem set_stp {i : Nat} {s : Sl} {v : V} {T : List Addr} (st : Stp K mg G0 H0 S0 σ0 ρ0 G H S σ ρ) (e : put ρ i s = some ρ') (hio : s.io = false) (ok : SlOk K mg G H s (some v) T) (hT : ∀ a ∈ T, Nt H0 a ∧ a ∉ S ∧ G a = none) (nd : T.Nodup) :
    ∃ S', Stp K mg G0 H0 S0 σ0 ρ0 G H S' (σ.set i (some v)) ρ' := by
  unfold put at e
  split at e
  · rename_i hi
    cases e
    obtain ⟨ov, S1, T1, S2, h1, h2, h3, h4⟩ := st.st.sls.at (List.getElem?_eq_getElem hi)
    have q := h4 G H s (some v) T (Sub.refl _) (fun _ _ => rfl) ok
    subst h2
    have nd0 := st.st.nd
    refine ⟨S1 ++ T ++ S2, st.sub, st.keep, fun a ha => ?_, st.trk, fun j s' hj hs' => ?_, ⟨st.st.sub, q, ?_, fun a ha => ?_, st.st.gno, st.st.tab⟩⟩
    · simp only [List.mem_append] at ha
      rcases ha with (ha | ha) | ha
      · exact st.own a (by simp [ha])
      · exact .inr (hT a ha).1
      · exact st.own a (by simp [ha])
    · rcases set_get hj with ⟨rfl, rfl⟩ | hj'
      · rw [hio] at hs'; cases hs'
      · by_cases z : i = j
        · subst z
          rw [List.getElem?_set_self hi] at hj
          cases hj
          rw [hio] at hs'; cases hs'
        · rw [List.getElem?_set_ne z]
          exact st.back j s' hj' hs'
    · simp only [List.append_assoc, List.nodup_append, List.mem_append] at nd0 ⊢
      refine ⟨nd0.1, ⟨nd, nd0.2.1.2.1, fun a ha b hb z => ?_⟩, fun a ha b hb => ?_⟩
      · subst z
        exact (hT a ha).2.1 (by simp [hb])
      · rcases hb with hb | hb
        · intro z; subst z
          exact (hT a hb).2.1 (by simp [ha])
        · exact nd0.2.2 a ha b (.inr hb)
    · simp only [List.mem_append] at ha
      rcases ha with (ha | ha) | ha
      · exact st.st.out a (by simp [ha])
      · exact (hT a ha).2.2
      · exact st.st.out a (by simp [ha])
  · cases e
end
section
variable {X : Cx} {W : WX} {e : Expr} {m : M D} {pos p1 p2 : Pos} {i : Nat} {x : Str}
def gNameD (i : Nat) : D → Env → Option Env := fun d ρ => put ρ i (.dat d)
theorem dg_name (i : Nat) (hN : X.N.Nodup) (hi : X.N[i]? = some x := by rfl) (hx : Loc X.env.scope x := by first | exact Or.inl rfl | exact Or.inr rfl) (hf : X.fn x = true ∨ X.env.scope.names.lookup x = some .local := by first | exact .inl rfl | exact .inr rfl) : DG X (.Name x pos) [i] (gNameD i) := by
  refine PGimp (pg_name hN hi hx hf) ?_
  rintro v σ H Q ⟨G, ρ, S, d, ρ', st, r, e, q⟩
  obtain ⟨S', t⟩ := set_stp (Stp.refl st) e rfl (.dat r) (by simp) (by simp)
  exact q _ _ _ _ t ⟨List.length_set .., fun j h => List.getElem?_set_ne (fun z => h (by simp [z]))⟩
def gNilD : List D → Env → Option Env := fun ds ρ => match ds with | [] => some ρ | _ => none
def gConsD (g : D → Env → Option Env) (gs : List D → Env → Option Env) : List D → Env → Option Env := fun ds ρ => match ds with | d :: r => (g d ρ).bind (gs r) | [] => none
theorem dgs_nil : DGs X [] [] gNilD := by
  refine PGsimp pgs_nil ?_
  rintro v σ H Q ⟨G, ρ, S, d, ρ', st, r, e, q⟩
  cases r with
  | nil => cases e; exact ⟨rfl, q _ _ _ _ (Stp.refl st) (Only.refl _ _)⟩
  | cons _ _ => cases e
theorem dgs_cons {es : List Expr} {us ws : List Nat} {g : D → Env → Option Env} {gs : List D → Env → Option Env} (h : DG X e us g) (t : DGs X es ws gs) (hs : (assignEach (e :: es) X.env).map (·.2) = assign e X.env :: (assignEach es X.env).map (·.2) := by rfl) : DGs X (e :: es) (us ++ ws) (gConsD g gs) := by
  refine PGsimp (pgs_cons h t hs) ?_
  rintro v σ H Q ⟨G, ρ, S, d, ρ', st, r, e, q⟩
  cases r with
  | nil => cases e
  | @cons d ds v vs a b =>
    have e : (g d ρ).bind (gs ds) = some ρ' := e
    cases w : g d ρ with
    | none => rw [w] at e; cases e
    | some ρ1 =>
      rw [w] at e
      refine ⟨v, vs, rfl, G, ρ, S, d, ρ1, st, a, w, fun G1 H1 S1 σ1 t1 o1 => ⟨G1, ρ1, S1, ds, ρ', t1.st, b.sub t1.sub, e, fun G2 H2 S2 σ2 t2 o2 => q _ _ _ _ (t1.trans t2) (o1.trans o2)⟩⟩
def gTupD (g : List D → Env → Option Env) : D → Env → Option Env := fun d ρ => match d with | .tup ds => g ds ρ | _ => none
theorem dg_tup {es : List Expr} {k n : Nat} {ws : List Nat} {g : List D → Env → Option Env} (hc : X.calm = true) (h : DGs X es ws g) (hgn : ∀ ds ρ ρ', g ds ρ = some ρ' → ds.length = n)
    (hn : (assignEach es X.env).length = n := by rfl) (hst : (assignEach es X.env).findIdx? (·.1) = none := by rfl) : DG X (.Tuple es k pos) ws (gTupD g) := by
  refine PGimp (pg_tup hc h hn hst) ?_
  rintro v σ H Q ⟨G, ρ, S, d, ρ', st, r, e, q⟩
  cases r with
  | @tup ds a vs hs l => exact ⟨a, vs, rfl, sqT_rsub st.sub.r hs, by rw [← l.length]; exact hgn _ _ _ e, G, ρ, S, ds, ρ', st, l, e, q⟩
  | _ => cases e
theorem gn_nil : ∀ ds ρ ρ', gNilD ds ρ = some ρ' → ds.length = 0 := fun ds ρ ρ' h => by cases ds with | nil => rfl | cons _ _ => cases h
theorem gn_cons {g : D → Env → Option Env} {gs : List D → Env → Option Env} {n : Nat} (h : ∀ ds ρ ρ', gs ds ρ = some ρ' → ds.length = n) : ∀ ds ρ ρ', gConsD g gs ds ρ = some ρ' → ds.length = n + 1 := fun ds ρ ρ' e => by
  cases ds with
  | nil => cases e
  | cons d ds =>
    have e : (g d ρ).bind (gs ds) = some ρ' := e
    cases w : g d ρ with
    | none => rw [w] at e; cases e
    | some ρ1 => rw [w] at e; simp [h _ _ _ e]

/-! ### statements -/
def sNx : MS := fun ρ => .nx ρ
def sSeq (m n : MS) : MS := fun ρ => match m ρ with | .nx ρ' => n ρ' | o => o
theorem ds_nil : DSs X W [] sNx := PSsimp pss_nil fun _ _ _ ⟨_, _, _, st, q⟩ => q _ _ _ _ (Stp.refl st)
theorem ds_cons {s : Stmt} {ss : List Stmt} {m n : MS} (h : DS X W s m) (t : DSs X W ss n) : DSs X W (s :: ss) (sSeq m n) := by
  refine PSsimp (pss_cons h t) ?_
  rintro E σ H ⟨G, ρ, S, st, p⟩
  refine ⟨G, ρ, S, st, ?_⟩
  unfold sSeq at p
  cases w : m ρ with
  | nx ρ' => rw [w] at p; exact fun G' H' S' σ' t => ⟨G', ρ', S', t.st, PostS.from t p⟩
  | rt d ρ' => rw [w] at p; exact p
  | bk ρ' => rw [w] at p; exact p
  | ct ρ' => rw [w] at p; exact p
  | err n fs ρ' => rw [w] at p; exact p
  | bad => rw [w] at p; exact p
theorem ds_one {s : Stmt} {m : MS} (h : DS X W s m) : DSs X W [s] m := pss_one h
theorem ds_pass : DS X W (.Pass pos) sNx := PSimp ps_pass fun _ _ _ ⟨_, _, _, st, q⟩ => q _ _ _ _ (Stp.refl st)
theorem ds_break : DS X W (.Break pos) (fun ρ => .bk ρ) := PSimp ps_break fun _ _ _ ⟨_, _, _, st, q⟩ => q _ _ _ _ (Stp.refl st)
theorem ds_continue : DS X W (.Continue pos) (fun ρ => .ct ρ) := PSimp ps_continue fun _ _ _ ⟨_, _, _, st, q⟩ => q _ _ _ _ (Stp.refl st)
def sExpr (m : M D) : MS := fun ρ => (m ρ).fl fun _ ρ' => .nx ρ'
theorem ds_expr (h : DE X W e m) (hs : swapsWith e none pos.line X.env = pure false := by rfl) : DS X W (.Expr e pos) (sExpr m) := by
  refine PSimp (ps_expr h hs) ?_
  rintro E σ H ⟨G, ρ, S, st, p⟩
  exact ⟨G, ρ, S, st, (PostO.fl p).imp fun d ρ1 G1 H1 S1 _ ⟨t1, p1⟩ v r => p1 _ _ _ _ (Stp.refl t1.st)⟩
def sRet (m : M D) : MS := fun ρ => (m ρ).fl fun d ρ' => .rt d ρ'
theorem ds_ret (h : DE X W e m) : DS X W (.Return (some e) pos) (sRet m) := by
  refine PSimp (ps_ret h) ?_
  rintro E σ H ⟨G, ρ, S, st, p⟩
  exact ⟨G, ρ, S, st, (PostO.fl p).imp fun d ρ1 G1 H1 S1 _ ⟨t1, p1⟩ v r => p1 _ _ _ _ _ (Stp.refl t1.st) r⟩
theorem ds_retN : DS X W (.Return none pos) (fun ρ => .rt .non ρ) := PSimp ps_retN fun _ _ _ ⟨_, _, _, st, q⟩ => q _ _ _ _ _ (Stp.refl st) .non
def sIf (c : M Bool) (m n : MS) : MS := fun ρ => (c ρ).fl fun b ρ' => if b then m ρ' else n ρ'
theorem ds_if {c : Expr} {a b : List Stmt} {mc : M Bool} {m n : MS} (hc : DT X W c mc) (ha : DSs X W a m) (hb : DSs X W b n) : DS X W (.If c a b pos) (sIf mc m n) := by
  refine PSimp (ps_if hc ha hb) ?_
  rintro E σ H ⟨G, ρ, S, st, p⟩
  refine ⟨G, ρ, S, st, (PostO.fl p).imp fun d ρ1 G1 H1 S1 _ ⟨t1, p1⟩ => ?_⟩
  cases d with
  | true => exact ⟨G1, ρ1, S1, t1.st, p1⟩
  | false => exact ⟨G1, ρ1, S1, t1.st, p1⟩
def sPut (i : Nat) (s : Sl) (ρ : Env) : Fl := match put ρ i s with | some ρ' => .nx ρ' | none => .bad
def sAsg (m : M D) (g : D → Env → Option Env) : MS := fun ρ => (m ρ).fl fun d ρ' => match g d ρ' with | some ρ'' => .nx ρ'' | none => .bad
theorem ds_asg {tg : Expr} {ws : List Nat} {g : D → Env → Option Env} (he : DE X W e m) (hg : DG X tg ws g) (hs : swapsWithSole [tg] e pos.line X.env = pure false := by rfl) (hw : swappedStores [tg] e X.env = pure none := by rfl)
    (h1 : (assignEach [tg] X.env).map (·.2) = [assign tg X.env] := by rfl) : DS X W (.Assign [tg] e pos) (sAsg m g) := by
  refine PSimp (ps_asg he hg hs hw h1) ?_
  rintro E σ H ⟨G, ρ, S, st, p⟩
  refine ⟨G, ρ, S, st, (PostO.fl p).imp fun d ρ1 G1 H1 S1 _ ⟨t1, p1⟩ v r => ?_⟩
  cases w : g d ρ1 with
  | none => rw [w] at p1; exact p1.elim
  | some ρ2 => rw [w] at p1; exact ⟨G1, ρ1, S1, d, ρ2, t1.st, r, w, fun G2 H2 S2 σ2 t2 _ => p1 _ _ _ _ t2⟩
/-- a name gets a fresh own thing -/
def sSetX (i : Nat) (m : M Sl) : MS := fun ρ => (m ρ).fl fun s ρ' => if s.io then .bad else sPut i s ρ'
theorem ds_setX (i : Nat) {m : M Sl} (he : DX X W e m) (hN : X.N.Nodup) (hi : X.N[i]? = some x := by rfl) (hx : Loc X.env.scope x := by first | exact Or.inl rfl | exact Or.inr rfl) (hf : X.fn x = true ∨ X.env.scope.names.lookup x = some .local := by first | exact .inl rfl | exact .inr rfl)
    (hs : swapsWithSole [.Name x p1] e pos.line X.env = pure false := by rfl) (hw : swappedStores [.Name x p1] e X.env = pure none := by rfl)
    (h1 : (assignEach [.Name x p1] X.env).map (·.2) = [assign (.Name x p1) X.env] := by rfl) : DS X W (.Assign [.Name x p1] e pos) (sSetX i m) := by
  refine PSimp (ps_asg he (pg_name hN hi hx hf) hs hw h1) ?_
  rintro E σ H ⟨G, ρ, S, st, p⟩
  refine ⟨G, ρ, S, st, (PostO.fl0 p).imp fun s ρ1 G1 H1 S1 _ ⟨t1, p1⟩ v T hio ok hT nd => ?_⟩
  rw [hio] at p1
  unfold sPut at p1
  cases w : put ρ1 i s with
  | none => rw [w] at p1; exact p1.elim
  | some ρ2 =>
    rw [w] at p1
    obtain ⟨S', t⟩ := set_stp t1 w hio ok hT nd
    exact p1 _ _ _ _ t
end
end FW

set_option Elab.async false
set_option linter.all false
set_option maxRecDepth 100000
set_option maxHeartbeats 400000
/-! FW5: defs and their calls. -/
namespace FW
open PySem PySem.Spec L2
open PyProof.Rows (envOfC)
variable [Tc]

/-- what a parameter's slot is behind the call: its own thing as it is then, or what it was -/
def exit1 (s r : Sl) : Option Sl := match s with
  | .un => some .un | .dat d => some (.dat d) | s => if s.io && r.io then some r else none
def exitL : Env → Env → Option Env
  | [], _ => some []
  | s :: ss, r :: rs => match exit1 s r, exitL ss rs with | some x, some xs => some (x :: xs) | _, _ => none
  | _ :: _, [] => none
/-- a def as a function of its parameters' slots; k: how many further names it has -/
def mFn (k : Nat) (mb : MS) : M D := fun ss => match mb (ss ++ List.replicate k .un) with
  | .rt d ρ => match exitL ss ρ with | some μ => .ok d μ | none => .bad
  | .nx ρ => match exitL ss ρ with | some μ => .ok .non μ | none => .bad
  | .err n fs ρ => match exitL ss ρ with | some μ => .err n fs μ | none => .bad
  | _ => .bad
def WEx (E : XK) : WX := fun c d _ H => E c d H
/-- the promise of a def that does what F says -/
def spF (K : PySem.W.Frag) (mg : Str → Option Value) (n : Nat) (F : M D) : Sp := fun vs H Q E => vs.length = n ∧ ∃ G ss S, StOk K mg G H (vs.map some) ss S ∧
  PostO K mg (WEx E) G H S (vs.map some) ss (F ss) fun d _ G' H' _ => ∀ v, Rep K mg G' d v → Q v H'
section
variable {K : PySem.W.Frag} {mg : Str → Option Value} {G H G' H' : Hp} {S S' : List Addr} {σ σ' : Sg} {ρ ρ' ss μ : Env}
theorem Sls.pad (x : Sls K mg G H ss σ S) (k : Nat) : Sls K mg G H (ss ++ List.replicate k .un) (σ ++ List.replicate k none) S := by
  induction x with
  | nil =>
    induction k with
    | zero => exact .nil
    | succ k ih => exact Sls.cons (T := []) (.un none) ih
  | cons a b ih => exact .cons a ih
theorem exit_sls (hs : Sub G G') : ∀ {ss : Env} {σ : Sg} {S : List Addr} {ρ' : Env} {σ' : Sg} {S' : List Addr} {μ : Env}, Sls K mg G H ss σ S → Sls K mg G' H' ρ' σ' S' →
    (∀ (i : Nat) (s : Sl), i < ss.length → ρ'[i]? = some s → s.io = true → σ'[i]? = σ[i]?) → exitL ss ρ' = some μ →
    ∃ S2, Sls K mg G' H' μ σ S2 ∧ S2.Sublist S' ∧ ∀ (i : Nat) (s : Sl), μ[i]? = some s → s.io = true → ∃ s0 : Sl, ss[i]? = some s0 ∧ s0.io = true
  | [], _, _, ρ', σ', S', μ, .nil, y, b, e => by
    have : exitL [] ρ' = some [] := by unfold exitL; rfl
    rw [this] at e; cases e
    exact ⟨[], .nil, List.nil_sublist _, fun i s h => by simp at h⟩
  | s :: ss, _, _, [], σ', S', μ, x, y, b, e => by cases e
  | s :: ss, _, _, r :: rs, _, _, μ, .cons (o := o) (σ := σ) (T := T) (S := S) sx x, .cons (o := o') (σ := σ') (T := T') (S := S') ry y, b, e => by
    simp only [exitL] at e
    cases e1 : exit1 s r with
    | none => rw [e1] at e; simp at e
    | some m =>
      cases e2 : exitL ss rs with
      | none => rw [e1, e2] at e; simp at e
      | some ms =>
        rw [e1, e2] at e; cases e
        obtain ⟨S2, h1, h2, h3⟩ := exit_sls hs x y (fun i s hi h4 h5 => by simpa using b (i + 1) s (by simpa using hi) (by simpa using h4) h5) e2
        have tail : ∀ {m : Sl}, (∀ (i : Nat) (t : Sl), (m :: ms)[i]? = some t → t.io = true → i = 0 → s.io = true) → ∀ (i : Nat) (t : Sl), (m :: ms)[i]? = some t → t.io = true → ∃ s0 : Sl, (s :: ss)[i]? = some s0 ∧ s0.io = true := fun hm i t h4 h5 => by
          cases i with
          | zero => exact ⟨s, rfl, hm 0 t h4 h5 rfl⟩
          | succ i => simpa using h3 i t (by simpa using h4) h5
        have own : s.io = true → r.io = true → m = r → ∃ S2, Sls K mg G' H' (m :: ms) (o :: σ) S2 ∧ S2.Sublist (T' ++ S') ∧ ∀ (i : Nat) (t : Sl), (m :: ms)[i]? = some t → t.io = true → ∃ s0 : Sl, (s :: ss)[i]? = some s0 ∧ s0.io = true := fun q1 q2 q3 => by
          subst q3
          have := b 0 m (by simp) rfl q2
          simp at this
          subst this
          exact ⟨T' ++ S2, .cons ry h1, List.Sublist.append (List.Sublist.refl _) h2, tail fun _ _ _ _ _ => q1⟩
        cases s with
        | un =>
          cases e1
          exact ⟨S2, .cons (T := []) (.un o) h1, List.Sublist.trans h2 (List.sublist_append_right _ _), tail fun i t h4 h5 h6 => by subst h6; cases h4; cases h5⟩
        | dat d =>
          cases e1
          cases sx with
          | dat q => exact ⟨S2, .cons (T := []) (.dat (q.sub hs)) h1, List.Sublist.trans h2 (List.sublist_append_right _ _), tail fun i t h4 h5 h6 => by subst h6; cases h4; cases h5⟩
        | lst io xs =>
          simp only [exit1] at e1
          split at e1
          · rename_i z; cases e1; rw [Bool.and_eq_true] at z; exact own z.1 z.2 rfl
          · cases e1
        | dct io xs =>
          simp only [exit1] at e1
          split at e1
          · rename_i z; cases e1; rw [Bool.and_eq_true] at z; exact own z.1 z.2 rfl
          · cases e1
        | drw io a b c d =>
          simp only [exit1] at e1
          split at e1
          · rename_i z; cases e1; rw [Bool.and_eq_true] at z; exact own z.1 z.2 rfl
          · cases e1
theorem exit_stp {k : Nat} (st : StOk K mg G H σ ss S) (t : Stp K mg G H S (σ ++ List.replicate k none) (ss ++ List.replicate k .un) G' H' S' σ' ρ') (e : exitL ss ρ' = some μ) :
    ∃ S2, Stp K mg G H S σ ss G' H' S2 σ μ := by
  obtain ⟨S2, h1, h2, h3⟩ := exit_sls t.sub st.sls t.st.sls (fun i s hi h4 h5 => by
    have := (t.back i s h4 h5).1
    rw [this, List.getElem?_append_left (by rw [← st.sls.length]; exact hi)]) e
  exact ⟨S2, t.sub, t.keep, fun a ha => t.own a (h2.subset ha), t.trk, fun i s h4 h5 => ⟨rfl, h3 i s h4 h5⟩, ⟨t.st.sub, h1, List.Pairwise.sublist h2 t.st.nd, fun a ha => t.st.out a (h2.subset ha), t.st.gno, t.st.tab⟩⟩
end
section
variable {P : Program} {w : World} {K : PySem.W.Frag} {mg : Str → Option Value} {base : Heap}
theorem fn_ok {x qual : Str} {st : Stmt} {f : Addr} {fd : FuncData} {N ps : List Str} {k kn : Nat} {mb : MS} (F : Fun K x qual st f fd) (S : FnScope N ps (defScope st)) (hk : N.length = ps.length + kn)
    (hbody : ∀ (cdv : Value) (A : Around) (outer : List PySem.Env) (s : Shared) (H : Hp) (E : XK), Room k (A.deeper (envOfC qual (defScope st) s.heap.objs.size f cdv)) →
      DSs (cxOf (L2.CX P w) P w K mg base N qual (defScope st) f cdv A outer s H E) (WEx E) (defBody st) mb) :
    FnOk P w K mg base (L2.CX P w) (k + 1) f fd ps (spF K mg ps.length (mFn kn mb)) := by
  refine F.okX S (fun vs H Q E h => h.1) fun cdv A outer s H vs Q E hr h => ⟨_, hbody cdv A outer s H E hr, ?_⟩
  obtain ⟨hl, G, ss, S0, st0, p⟩ := h
  have hss : ss.length = vs.length := by rw [st0.sls.length]; simp
  have e0 : L2.start N vs = vs.map some ++ List.replicate kn none := by
    unfold L2.start
    rw [hk, hl]
    congr 2
    omega
  rw [e0]
  have st1 : StOk K mg G H (vs.map some ++ List.replicate kn none) (ss ++ List.replicate kn .un) S0 := ⟨st0.sub, st0.sls.pad kn, st0.nd, st0.out, st0.gno, st0.tab⟩
  refine ⟨G, _, S0, st1, ?_⟩
  unfold mFn at p
  show PostS K mg (WEx E) G H S0 _ _ (mb (ss ++ List.replicate kn .un)) _
  cases q : mb (ss ++ List.replicate kn .un) with
  | nx ρ' =>
    rw [q] at p
    simp only at p
    cases q2 : exitL ss ρ' with
    | none => rw [q2] at p; exact p.elim
    | some μ =>
      rw [q2] at p
      intro G' H' S' σ' t
      obtain ⟨S2, t2⟩ := exit_stp st0 t q2
      exact p _ _ _ t2 _ .non
  | rt d ρ' =>
    rw [q] at p
    simp only at p
    cases q2 : exitL ss ρ' with
    | none => rw [q2] at p; exact p.elim
    | some μ =>
      rw [q2] at p
      intro G' H' S' σ' v t r
      obtain ⟨S2, t2⟩ := exit_stp st0 t q2
      exact p _ _ _ t2 _ r
  | bk ρ' => rw [q] at p; exact p.elim
  | ct ρ' => rw [q] at p; exact p.elim
  | err n fs ρ' =>
    rw [q] at p
    simp only at p
    cases q2 : exitL ss ρ' with
    | none => rw [q2] at p; exact p.elim
    | some μ =>
      rw [q2] at p
      intro G' H' S' σ' c dd t er
      obtain ⟨S2, t2⟩ := exit_stp st0 t q2
      exact p _ _ _ c dd t2 er
  | bad => rw [q] at p; exact p.elim
end
end FW

set_option Elab.async false
set_option linter.all false
set_option maxRecDepth 100000
set_option maxHeartbeats 400000
/-! FW6: calls of defs; append; loops. -/
namespace FW
open PySem PySem.Spec L2
variable [Tc]

def Sl.setIo (b : Bool) : Sl → Sl | .lst _ xs => .lst b xs | .dct _ xs => .dct b xs | .drw _ l c r t => .drw b l c r t | s => s
theorem setIo_io {b : Bool} {s : Sl} (h : (s.setIo b).io = true) : b = true := by cases s <;> first | exact h | cases h
def Sl.own : Sl → Bool | .un => false | .dat _ => false | _ => true
def dats (ds : List D) : Env := ds.map Sl.dat
section
variable {K : PySem.W.Frag} {mg : Str → Option Value} {W : WX} {G H G' H' : Hp} {S S' : List Addr} {σ σc : Sg} {ρ ρc ρc' : Env}
theorem SlOk.setIo {s : Sl} {o : Option V} {T : List Addr} (b : Bool) (h : SlOk K mg G H s o T) : SlOk K mg G H (s.setIo b) o T := by
  cases h with
  | un o => exact .un o
  | dat r => exact .dat r
  | lst a b => exact .lst a b
  | dct a b => exact .dct a b
  | drw a b c => exact .drw a b c
theorem sls_dats : ∀ {ds : List D} {vs : List V}, RepL K mg G ds vs → Sls K mg G H (dats ds) (vs.map some) []
  | _, _, .nil => .nil
  | _, _, .cons a b => Sls.cons (T := []) (.dat a) (sls_dats b)
theorem stok_keep (st : StOk K mg G H σ ρ S) {T : List Addr} (t : Stp K mg G H T σc ρc G' H' S' σc ρc') {a : Addr} (ha : a ∈ S) (hT : a ∉ T) : G' a = none ∧ H' a = H a := by
  obtain ⟨o, e, n⟩ := st.sls.tracked a ha
  rw [e]
  exact t.keep a o e n (st.out a ha) hT
theorem call_stp (st : StOk K mg G H σ ρ S) (t : Stp K mg G H [] σc ρc G' H' S' σc ρc') : Stp K mg G H S σ ρ G' H' S σ ρ :=
  ⟨t.sub, fun a o h nt n hs => t.keep a o h nt n (by simp), fun a h => .inl h, t.trk, fun i s h4 h5 => ⟨rfl, s, h4, h5⟩,
    ⟨t.st.sub, st.sls.mono t.sub fun a ha => (stok_keep st t ha (by simp)).2, st.nd, fun a ha => (stok_keep st t ha (by simp)).1, t.st.gno, t.st.tab⟩⟩
end
/-- f(e, ..) on data -/
def mCallF (n : Nat) (F : M D) (ma : M (List D)) : M D := mBind ma fun ds ρ => if ds.length = n then (match F (dats ds) with | .ok d _ => .ok d ρ | .err n fs _ => .err n fs ρ | .bad => .bad) else .bad
section
variable {X : Cx} {W : WX} {k n : Nat} {f : Addr} {fd : FuncData} {ps : List Str} {F : M D} {x : Str} {e : Expr} {es : List Expr} {ma : M (List D)} {p pos : Pos}
theorem de_call (F0 : FnOk X.prog X.w X.K X.mg X.base (L2.CX X.prog X.w) k f fd ps (spF X.K X.mg n F)) (hr : Room k X.A) (hm : X.mg x = some (.ref f)) (hk : PySem.W.keepIn X.K (.ref f) = true) (hb : Binds X.K fd ps []) (tk : Takes X W)
    (ha : DA X W (e :: es) ma) (hg : Gl X x := by rfl) (hdb : (x == ("__debug__" : Str)) = false := by decide) (he : starEach (e :: es) X.env = (false, eval e X.env) :: starEach es X.env := by rfl) (hpl : (backTo pos (starEach es X.env)).any (·.1) = false := by rfl) :
    DE X W (.Call (.Name x p) (e :: es) [] pos) (mCallF n F ma) := by
  refine PEimp (pe_callS F0 hr hg hm hk hb (fun σ => passAt tk σ) ha hdb he hpl) ?_
  rintro σ H Q ⟨G, ρ, S, st, p⟩
  refine ⟨G, ρ, S, st, (PostO.bind p).imp fun ds ρ1 G1 H1 S1 _ ⟨t1, p1⟩ vs rs => ?_⟩
  split at p1
  · rename_i hn
    refine ⟨by rw [← rs.length]; exact hn, G1, dats ds, [], ⟨t1.st.sub, sls_dats rs, by simp, by simp, t1.st.gno, t1.st.tab⟩, ?_⟩
    cases q : F (dats ds) with
    | ok d ρ' =>
      rw [q] at p1
      exact fun G' H' S' t => p1 _ _ _ (call_stp t1.st t)
    | err m fs ρ' =>
      rw [q] at p1
      exact fun G' H' S' c dd t er => p1 _ _ _ c dd (call_stp t1.st t) er
    | bad => rw [q] at p1; exact p1.elim
  · exact p1.elim
/-- f(x, e, ..), x in slot j an own thing that f may change -/
def mCallB (j n : Nat) (F : M D) (ma : M (List D)) : M D := fun ρ0 => match ρ0[j]? with
  | some s0 => if s0.own then mBind ma (fun ds ρ => match ρ[j]? with
    | some s => if s.own && decide (ds.length + 1 = n) then (match F (s.setIo true :: dats ds) with | .ok d (s' :: _) => .ok d (ρ.set j (s'.setIo s.io)) | .err n fs (s' :: _) => .err n fs (ρ.set j (s'.setIo s.io)) | _ => .bad) else .bad
    | none => .bad) ρ0 else .bad
  | none => .bad
theorem own_ref {K : PySem.W.Frag} {mg : Str → Option Value} {G H : Hp} {s : Sl} {o : Option V} {T : List Addr} (h : SlOk K mg G H s o T) (q : s.own = true) : ∃ a, o = some (.ref a) := by
  cases h with
  | un o => cases q
  | dat r => cases q
  | lst a b => exact ⟨_, rfl⟩
  | dct a b => exact ⟨_, rfl⟩
  | drw a b c => exact ⟨_, rfl⟩
theorem borrow_stp {K : PySem.W.Frag} {mg : Str → Option Value} {G H G' H' : Hp} {S1 S2 T S' : List Addr} {σ : Sg} {ρ ρc μ : Env} {j : Nat} {s s' : Sl} {o : Option V} {σc : Sg} (st : StOk K mg G H σ ρ (S1 ++ T ++ S2)) (hj : ρ[j]? = some s) (hσ : σ[j]? = some o)
    (set4 : ∀ G' H' s' o' T', Sub G G' → (∀ a ∈ S1 ++ S2, H' a = H a) → SlOk K mg G' H' s' o' T' → Sls K mg G' H' (ρ.set j s') (σ.set j o') (S1 ++ T' ++ S2))
    (t : Stp K mg G H T (o :: σc) (s.setIo true :: ρc) G' H' S' (o :: σc) (s' :: μ)) : ∃ S3, Stp K mg G H (S1 ++ T ++ S2) σ ρ G' H' S3 σ (ρ.set j (s'.setIo s.io)) := by
  have nd := st.nd
  simp only [List.append_assoc, List.nodup_append, List.mem_append] at nd
  have e1 : ∀ a ∈ S1 ++ S2, a ∉ T := fun a ha hT => by
    rcases List.mem_append.mp ha with h | h
    · exact nd.2.2 a h a (.inl hT) rfl
    · exact nd.2.1.2.2 a hT a h rfl
  have kp : ∀ a ∈ S1 ++ S2, G' a = none ∧ H' a = H a := fun a ha => stok_keep st t (by simp at ha ⊢; rcases ha with h | h <;> simp [h]) (e1 a ha)
  obtain ⟨st', sl', nd', out', gno', tab'⟩ := t.st
  cases sl' with
  | @cons _ _ _ _ T' S'' h1 h2 =>
    have q := set4 G' H' (s'.setIo s.io) o T' t.sub (fun a ha => (kp a ha).2) (h1.setIo _)
    rw [set_id hσ] at q
    have ndT := List.nodup_append.mp nd'
    refine ⟨S1 ++ T' ++ S2, t.sub, fun a u h nt n hs => t.keep a u h nt n fun z => hs (by simp [z]), fun a ha => ?_, t.trk, fun i x hx hio => ?_, ⟨st', q, ?_, fun a ha => ?_, gno', tab'⟩⟩
    · simp only [List.mem_append] at ha
      rcases ha with (h | h) | h
      · exact .inl (by simp [h])
      · rcases t.own a (by simp [h]) with z | z
        · exact .inl (by simp [z])
        · exact .inr z
      · exact .inl (by simp [h])
    · rcases set_get hx with ⟨rfl, rfl⟩ | hx
      · exact ⟨rfl, s, hj, setIo_io hio⟩
      · exact ⟨rfl, x, hx, hio⟩
    · simp only [List.append_assoc, List.nodup_append, List.mem_append]
      have dis : ∀ a ∈ T', ∀ b ∈ S1 ++ S2, a ≠ b := fun a ha b hb z => by
        subst z
        rcases t.own a (by simp [ha]) with z | z
        · exact e1 a hb z
        · exact st.sls.notNt (by simp at hb ⊢; rcases hb with h | h <;> simp [h]) z
      refine ⟨nd.1, ⟨ndT.1, nd.2.1.2.1, fun a ha b hb => dis a ha b (by simp [hb])⟩, fun a ha b hb => ?_⟩
      rcases hb with hb | hb
      · exact fun z => dis b hb a (by simp [ha]) z.symm
      · exact nd.2.2 a ha b (.inr hb)
    · simp only [List.mem_append] at ha
      rcases ha with (h | h) | h
      · exact (kp a (by simp [h])).1
      · exact out' a (by simp [h])
      · exact (kp a (by simp [h])).1
theorem de_callB1 (j : Nat) {y : Str} {p2 : Pos} (F0 : FnOk X.prog X.w X.K X.mg X.base (L2.CX X.prog X.w) k f fd ps (spF X.K X.mg n F)) (hr : Room k X.A) (hm : X.mg x = some (.ref f)) (hk : PySem.W.keepIn X.K (.ref f) = true) (hb : Binds X.K fd ps []) (tk : Takes X W)
    (ha : DA X W es ma) (hN : X.N[j]? = some y := by rfl) (hv : Vis X.env.scope y := by first | exact Or.inl rfl | exact Or.inr (Or.inl rfl) | exact Or.inr (Or.inr rfl)) (hg : Gl X x := by rfl) (hdb : (x == ("__debug__" : Str)) = false := by decide)
    (hdy : (y == ("__debug__" : Str)) = false := by decide) (hcd : (y == ("__classdict__" : Str)) = false := by decide)
    (he : starEach (.Name y p2 :: es) X.env = (false, eval (.Name y p2) X.env) :: starEach es X.env := by rfl) (hpl : (backTo pos (starEach es X.env)).any (·.1) = false := by rfl) :
    DE X W (.Call (.Name x p) (.Name y p2 :: es) [] pos) (mCallB j n F ma) := by
  refine PEimp (pe_callS F0 hr hg hm hk hb (fun σ => passAt tk σ) (pa_cons (pe_var hN hv hdy hcd) ha he) hdb he hpl) ?_
  rintro σ H Q ⟨G, ρ, S, st, p⟩
  unfold mCallB at p
  cases e0 : ρ[j]? with
  | none => rw [e0] at p; exact p.elim
  | some s0 =>
    rw [e0] at p
    simp only at p
    split at p
    · rename_i own0
      obtain ⟨o, S1, T, S2, h1, h2, h3, h4⟩ := st.sls.at e0
      obtain ⟨a, rfl⟩ := own_ref h3 own0
      refine ⟨_, h1, G, ρ, S, st, (PostO.bind p).imp fun ds ρ1 G1 H1 S1' _ ⟨t1, p1⟩ vs rs => ?_⟩
      cases e1 : ρ1[j]? with
      | none => rw [e1] at p1; exact p1.elim
      | some s =>
        rw [e1] at p1
        simp only at p1
        split at p1
        · rename_i hh
          rw [Bool.and_eq_true, decide_eq_true_eq] at hh
          obtain ⟨o', S3, T', S4, g1, g2, g3, g4⟩ := t1.st.sls.at e1
          rw [h1] at g1; cases g1
          subst g2
          have st1 := t1.st
          have nd := st1.nd
          simp only [List.append_assoc, List.nodup_append] at nd
          have sls : Sls X.K X.mg G1 H1 (s.setIo true :: dats ds) ((V.ref a :: vs).map some) T' := by
            have := Sls.cons (g3.setIo true) (sls_dats (H := H1) rs)
            simpa using this
          refine ⟨by simp [← rs.length]; omega, G1, s.setIo true :: dats ds, T', ⟨st1.sub, sls, nd.2.1.1, fun b hb => st1.out b (by simp [hb]), st1.gno, st1.tab⟩, ?_⟩
          cases q : F (s.setIo true :: dats ds) with
          | ok d ρ' =>
            rw [q] at p1
            cases ρ' with
            | nil => exact p1.elim
            | cons s' μ =>
              intro G' H' S' t
              obtain ⟨S5, t5⟩ := borrow_stp st1 e1 h1 g4 t
              exact p1 _ _ _ t5
          | err m fs ρ' =>
            rw [q] at p1
            cases ρ' with
            | nil => exact p1.elim
            | cons s' μ =>
              intro G' H' S' c dd t er
              obtain ⟨S5, t5⟩ := borrow_stp st1 e1 h1 g4 t
              exact p1 _ _ _ c dd t5 er
          | bad => rw [q] at p1; exact p1.elim
        · exact p1.elim
    · exact p.elim
end
end FW

set_option Elab.async false
set_option linter.all false
set_option maxRecDepth 100000
set_option maxHeartbeats 400000
/-! FW7: append, loops, parallel assignments. -/
namespace FW
open PySem PySem.Spec L2
variable [Tc]

section
variable {X : Cx} {W : WX} {e : Expr} {m : M D} {pos p1 p2 p3 : Pos} {i : Nat} {x : Str}
/-- x.append(e), x in slot i an own list -/
def sAppend (i : Nat) (m : M D) : MS := fun ρ0 => match ρ0[i]? with
  | some (.lst _ _) => (m ρ0).fl fun d ρ => match ρ[i]? with
    | some (.lst io xs) => if xs.length < sizeLine then .nx (ρ.set i (.lst io (xs ++ [d]))) else .bad
    | _ => .bad
  | _ => .bad
/-- an own thing changes at its place -/
theorem own_set {K : PySem.W.Frag} {mg : Str → Option Value} {G H : Hp} {S1 S2 : List Addr} {σ : Sg} {ρ : Env} {i : Nat} {s s' : Sl} {p : Addr} {o : HO} (st : StOk K mg G H σ ρ (S1 ++ [p] ++ S2)) (hi : ρ[i]? = some s) (hσ : σ[i]? = some (some (.ref p))) (hio : s'.io = true → s.io = true)
    (set4 : ∀ G' H' s' o' T', Sub G G' → (∀ a ∈ S1 ++ S2, H' a = H a) → SlOk K mg G' H' s' o' T' → Sls K mg G' H' (ρ.set i s') (σ.set i o') (S1 ++ T' ++ S2))
    {o0 : HO} (hp : H p = some o0) (hnt : NTb o0) (hnx : ∀ φ, o0 ≠ .ext φ) (ok : SlOk K mg G (upd H p o) s' (some (.ref p)) [p]) : Stp K mg G H (S1 ++ [p] ++ S2) σ ρ G (upd H p o) (S1 ++ [p] ++ S2) σ (ρ.set i s') := by
  have nd := st.nd
  simp only [List.append_assoc, List.nodup_append, List.mem_append, List.mem_singleton] at nd
  have ne : ∀ a ∈ S1 ++ S2, a ≠ p := fun a ha z => by
    subst z
    rcases List.mem_append.mp ha with h | h
    · exact nd.2.2 a h a (.inl rfl) rfl
    · exact nd.2.1.2.2 a rfl a h rfl
  have q := set4 G (upd H p o) s' (some (.ref p)) [p] (Sub.refl _) (fun a ha => upd_ne (ne a ha)) ok
  rw [set_id hσ] at q
  refine ⟨Sub.refl _, fun a u h _ n hs => ⟨n, by rw [upd_ne (fun z => hs (by simp [z]))]; exact h⟩, fun a ha => .inl ha, fun a h => ?_, fun j t hj ht => ?_, ⟨fun a u h => ?_, q, st.nd, st.out, st.gno, tabs_upd st.tab hp hnt hnx⟩⟩
  · by_cases z : a = p
    · subst z
      obtain ⟨ps, e⟩ := h o upd_same
      cases ok with
      | lst h l => rw [upd_same] at h; cases h; cases e
      | dct h l => rw [upd_same] at h; cases h; cases e
    · intro u e
      exact h u (by rw [upd_ne z]; exact e)
  · rcases set_get hj with ⟨rfl, rfl⟩ | hj
    · exact ⟨rfl, s, hi, hio ht⟩
    · exact ⟨rfl, t, hj, ht⟩
  · have z : a ≠ p := fun z => by
      have := st.out p (by simp)
      rw [z, this] at h; cases h
    rw [upd_ne z]; exact st.sub a u h
theorem ds_append (i : Nat) (he : DE X W e m) (hN : X.N[i]? = some x := by rfl) (hv : Vis X.env.scope x := by first | exact Or.inl rfl | exact Or.inr (Or.inl rfl) | exact Or.inr (Or.inr rfl)) (hd : (x == ("__debug__" : Str)) = false := by decide)
    (hcd : (x == ("__classdict__" : Str)) = false := by decide)
    (hbase : attributeBase (.Name x p1) "append" X.env (eval (.Name x p1) X.env) = eval (.Name x p1) X.env := by rfl)
    (hfew : ((backTo p3 (starEach [e] X.env)).all (fun x => !x.1) && (backToKw p3 (keywordEach [] X.env)).all (fun x => x.1.isSome)
      && decide ([e].length + ([] : List Keyword).length + (if ([] : List Keyword).isEmpty then 0 else 1) < 30)) = true := by rfl)
    (hline : (p2.endLine == p3.line) = true := by rfl) (hs : starEach [e] X.env = (false, eval e X.env) :: starEach [] X.env := by rfl) (hplain : (backTo p3 (starEach [] X.env)).any (·.1) = false := by rfl)
    (hsw : swapsWith (.Call (.Attribute (.Name x p1) "append" p2) [e] [] p3) none pos.line X.env = pure false := by rfl) :
    DS X W (.Expr (.Call (.Attribute (.Name x p1) "append" p2) [e] [] p3) pos) (sAppend i m) := by
  refine PSimp (ps_expr (pe_bm PySem.F.plainAttrs_list PySem.F.slot_list_append PySem.F.type_list_append mt_append (pe_var hN hv hd hcd) (pa_cons he pa_nil hs) hbase hfew hline hs hplain) hsw) ?_
  rintro E σ H ⟨G, ρ, S, st, p⟩
  unfold sAppend at p
  cases e0 : ρ[i]? with
  | none => rw [e0] at p; exact p.elim
  | some s0 =>
    rw [e0] at p
    obtain ⟨o, S1, T, S2, h1, h2, h3, h4⟩ := st.sls.at e0
    cases h3 with
    | @lst io xs q vs hq l =>
      refine ⟨_, h1, .inl ⟨rfl, _, .inl (.inl hq)⟩, G, ρ, S, st, (PostO.fl p).imp fun d ρ1 G1 H1 S1' _ ⟨t1, p1⟩ v r => ?_⟩
      cases e1 : ρ1[i]? with
      | none => rw [e1] at p1; exact p1.elim
      | some s1 =>
        rw [e1] at p1
        obtain ⟨o', S3, T', S4, g1, g2, g3, g4⟩ := t1.st.sls.at e1
        rw [h1] at g1; cases g1
        cases g3 with
        | @lst io' xs' _ vs' hq' l' =>
          simp only at p1
          split at p1
          · rename_i hlen
            subst g2
            refine ⟨q, vs', v, rfl, rfl, hq', by rw [← l'.length]; exact hlen, ?_⟩
            have t := own_set (o := .lst (vs' ++ [v])) (s' := .lst io' (xs' ++ [d])) t1.st e1 h1 (fun z => z) g4 hq' ntb_lst (fun _ h => nomatch h) (.lst upd_same (l'.append (.cons r .nil)))
            exact p1 _ _ _ _ t
          · exact p1.elim
        | un _ => exact p1.elim
        | dat _ => exact p1.elim
        | dct _ _ => exact p1.elim
        | drw _ _ _ => exact p1.elim
    | un _ => exact p.elim
    | dat _ => exact p.elim
    | dct _ _ => exact p.elim
    | drw _ _ _ => exact p.elim
end

/-! ### what is walked -/
/-- J walks the data ds, as long as Z is known -/
structure Wk (K : PySem.W.Frag) (mg : Str → Option Value) (J : It) (Z : Hp → Prop) (ds : List D) : Prop where
  mono : ∀ G G', Sub G G' → Z G → Z G'
  go : ∀ i G H, Sub G H → Z G → i < ds.length → J.go i H
  stop : ∀ G H, Sub G H → Z G → J.stop ds.length H
  yld : ∀ i G H x H' d, Sub G H → Z G → J.yld i H x H' → ds[i]? = some d → ∃ G', Al G H G' H' ∧ Rep K mg G' d x
def rdI (K : PySem.W.Frag) (mg : Str → Option Value) (W : WX) (m : M (List D)) : TI := fun σ H R => ∃ G ρ S, StOk K mg G H σ ρ S ∧ PostO K mg W G H S σ ρ (m ρ) fun ds _ G' H' _ => ∀ J Z, Wk K mg J Z ds → Z G' → R J H'
abbrev DI (X : Cx) (W : WX) (tg e : Expr) (m : M (List D)) : Prop := PI X tg e (rdI X.K X.mg W m)
theorem PIimp {X : Cx} {tg e : Expr} {t t' : TI} (h : PI X tg e t) (i : ∀ σ H R, t' σ H R → t σ H R) : PI X tg e t' := ⟨fun pins s σ H R I q => h.run pins s σ H R I (i _ _ _ q)⟩
theorem PIor {X : Cx} {tg e : Expr} {t t' : TI} (h : PI X tg e t) (h' : PI X tg e t') : PI X tg e (fun σ H R => t σ H R ∨ t' σ H R) :=
  ⟨fun pins s σ H R I q => q.elim (h.run pins s σ H R I) (h'.run pins s σ H R I)⟩
theorem RepL.item {K : PySem.W.Frag} {mg : Str → Option Value} {G : Hp} {ds : List D} {vs : List V} (h : RepL K mg G ds vs) {i : Nat} {d : D} {v : V} (e : ds[i]? = some d) (e2 : vs[i]? = some v) : Rep K mg G d v := by
  obtain ⟨v', h1, h2⟩ := h.get e
  rw [e2] at h1; cases h1; exact h2
theorem wk_list {K : PySem.W.Frag} {mg : Str → Option Value} {a : Addr} {ds : List D} {vs : List V} : Wk K mg (Itl K a) (fun G => SqL K G a vs ∧ RepL K mg G ds vs) ds where
  mono := fun G G' s h => ⟨sqL_rsub s.r h.1, h.2.sub s⟩
  go := fun i G H s h hi => ⟨vs, vs[i]'(by rw [← h.2.length]; exact hi), sqL_rsub s.r h.1, by simp⟩
  stop := fun G H s h => ⟨vs, sqL_rsub s.r h.1, by rw [h.2.length]; exact Nat.le_refl _⟩
  yld := fun i G H x H' d s h y e => by
    obtain ⟨rfl, y⟩ := y
    exact ⟨G, Al.refl s, h.2.item e (y vs (sqL_rsub s.r h.1))⟩
theorem wk_tup {K : PySem.W.Frag} {mg : Str → Option Value} {a : Addr} {ds : List D} {vs : List V} : Wk K mg (Itt K a) (fun G => SqT K G a vs ∧ RepL K mg G ds vs) ds where
  mono := fun G G' s h => ⟨sqT_rsub s.r h.1, h.2.sub s⟩
  go := fun i G H s h hi => ⟨vs, vs[i]'(by rw [← h.2.length]; exact hi), sqT_rsub s.r h.1, by simp⟩
  stop := fun G H s h => ⟨vs, sqT_rsub s.r h.1, by rw [h.2.length]; exact Nat.le_refl _⟩
  yld := fun i G H x H' d s h y e => by
    obtain ⟨rfl, y⟩ := y
    exact ⟨G, Al.refl s, h.2.item e (y vs (sqT_rsub s.r h.1))⟩
def rangeD (lo : Int) (n : Nat) : List D := (List.range n).map fun k => D.int (lo + (k : Nat))
theorem wk_range {K : PySem.W.Frag} {mg : Str → Option Value} {lo : Int} {n : Nat} : Wk K mg (Itr lo n) (fun _ => True) (rangeD lo n) where
  mono := fun _ _ _ h => h
  go := fun i G H s h hi => by show i < n; simpa [rangeD] using hi
  stop := fun G H s h => by simp [rangeD, Itr]
  yld := fun i G H x H' d s h y e => by
    have hi : i < n := by
      have := (List.getElem?_eq_some_iff.mp e).1
      simpa [rangeD] using this
    obtain ⟨rfl, rfl⟩ := y
    simp [rangeD, hi] at e
    subst e
    exact ⟨G, Al.refl s, .int _⟩
def enumD (i : Nat) : List D → List D | [] => [] | d :: ds => D.tup [.int (i : Nat), d] :: enumD (i + 1) ds
theorem enumD_get : ∀ {ds : List D} {i j : Nat}, (enumD i ds)[j]? = ds[j]?.map fun d => D.tup [.int ((i + j : Nat) : Int), d]
  | [], _, _ => by simp [enumD]
  | d :: ds, i, 0 => by simp [enumD]
  | d :: ds, i, j + 1 => by
    have := enumD_get (ds := ds) (i := i + 1) (j := j)
    simp only [enumD, List.getElem?_cons_succ, this]
    congr 2; funext d; congr 4; omega
theorem enumD_len : ∀ {ds : List D} {i : Nat}, (enumD i ds).length = ds.length
  | [], _ => rfl
  | d :: ds, i => by simp [enumD, enumD_len]
theorem wk_enum {K : PySem.W.Frag} {mg : Str → Option Value} {a : Addr} {ds : List D} {vs : List V} : Wk K mg (Ite K a) (fun G => SqL K G a vs ∧ RepL K mg G ds vs) (enumD 0 ds) where
  mono := fun G G' s h => ⟨sqL_rsub s.r h.1, h.2.sub s⟩
  go := fun i G H s h hi => ⟨vs, vs[i]'(by rw [← h.2.length]; rw [enumD_len] at hi; exact hi), sqL_rsub s.r h.1, by simp⟩
  stop := fun G H s h => ⟨vs, sqL_rsub s.r h.1, by rw [enumD_len, h.2.length]; exact Nat.le_refl _⟩
  yld := fun i G H x H' d s h y e => by
    obtain ⟨T, v, rfl, hT, rfl, hx⟩ := y
    rw [enumD_get] at e
    cases q : ds[i]? with
    | none => rw [q] at e; cases e
    | some d0 =>
      rw [q] at e
      simp only [Option.map_some, Option.some.injEq, Nat.zero_add] at e
      subst e
      have al := Al.new (o := .tup [.int (i : Nat), v]) s hT
      exact ⟨_, al, .tup (.inl (.inl upd_same)) (.cons (.int _) (.cons ((h.2.item q (hx vs (sqL_rsub s.r h.1))).sub al.sub) .nil))⟩
/-- the items of data that is walked -/
def dItems : D → Option (List D) | .lst xs => some xs | .rol xs => some xs | .tup xs => some xs | _ => none
def mItems (m : M D) : M (List D) := mBind m fun d => mOpt (dItems d)
section
variable {X : Cx} {W : WX} {e tg : Expr} {es : List Expr} {m : M D} {pos p1 p2 p3 : Pos} {i : Nat} {x : Str}
theorem di_seq (h : DE X W e m) : DI X W tg e (mItems m) := by
  refine PIimp (PIor (pi_list h) (pi_tup h)) ?_
  rintro σ H R ⟨G, ρ, S, st, p⟩
  cases q : m ρ with
  | err n fs ρ' =>
    have p : PostO X.K X.mg W G H S σ ρ ((m ρ).then fun d => mOpt (dItems d)) _ := p
    rw [q] at p
    exact .inl ⟨G, ρ, S, st, by rw [q]; exact p⟩
  | bad =>
    have p : PostO X.K X.mg W G H S σ ρ ((m ρ).then fun d => mOpt (dItems d)) _ := p
    rw [q] at p; exact p.elim
  | ok d ρ' =>
    have p : PostO X.K X.mg W G H S σ ρ ((m ρ).then fun d => mOpt (dItems d)) _ := p
    rw [q] at p
    have p0 := p
    have p := PostO.bind p
    have lst : ∀ ds, dItems d = some ds → (∀ G v, Rep X.K X.mg G d v → ∃ a vs, v = .ref a ∧ SqL X.K G a vs ∧ RepL X.K X.mg G ds vs) → iList X.K (rdE X.K X.mg W m) σ H R := fun ds hd hr => by
      refine ⟨G, ρ, S, st, ?_⟩
      rw [q]
      intro G1 H1 S1 t1 v r
      obtain ⟨_, p1⟩ := p _ _ _ t1
      rw [hd] at p1
      obtain ⟨a, vs, rfl, h1, h2⟩ := hr G1 v r
      exact ⟨a, rfl, ⟨vs, sqL_rsub t1.st.sub.r h1⟩, p1 _ _ _ (Stp.refl t1.st) _ _ wk_list ⟨h1, h2⟩⟩
    cases d with
    | lst ds => exact .inl (lst ds rfl fun G v r => by cases r with | lst h l => exact ⟨_, _, rfl, .inl (.inl h), l⟩)
    | rol ds => exact .inl (lst ds rfl fun G v r => by cases r with | rol h l => exact ⟨_, _, rfl, h, l⟩)
    | tup ds =>
      refine .inr ⟨G, ρ, S, st, ?_⟩
      rw [q]
      intro G1 H1 S1 t1 v r
      obtain ⟨_, p1⟩ := p _ _ _ t1
      cases r with
      | tup h1 h2 => exact ⟨_, rfl, ⟨_, sqT_rsub t1.st.sub.r h1⟩, p1 _ _ _ (Stp.refl t1.st) _ _ wk_tup ⟨h1, h2⟩⟩
    | _ => exact False.elim p0
theorem di_range1 {ma : M (List D)} (hm : X.mg "range" = none) (ha : DA X W [e] ma) (hg : Gl X "range" := by rfl) (hs : starEach [e] X.env = [(false, eval e X.env)] := by rfl) :
    DI X W tg (.Call (.Name "range" p1) [e] [] pos) (mBind ma fun ds => mOpt (match ds with | [.int j] => if -(2 ^ 62) ≤ j ∧ j < 2 ^ 62 then some (rangeD 0 j.toNat) else none | _ => none)) := by
  refine PIimp (pi_range1 hg hm ha hs) ?_
  rintro σ H R ⟨G, ρ, S, st, p⟩
  refine ⟨G, ρ, S, st, (PostO.bind p).imp fun ds ρ1 G1 H1 S1 _ ⟨t1, p1⟩ v r => ?_⟩
  obtain ⟨ds', e', p2⟩ := PostO.opt p1
  split at e'
  · rename_i j
    split at e'
    · rename_i hj
      cases e'
      cases r with
      | cons a b =>
        cases b
        cases a
        exact ⟨_, rfl, hj.1, hj.2, p2 _ _ _ (Stp.refl t1.st) _ _ wk_range True.intro⟩
    · cases e'
  · cases e'
theorem di_range2 {e2 : Expr} {ma : M (List D)} (hm : X.mg "range" = none) (ha : DA X W [e, e2] ma) (hg : Gl X "range" := by rfl) (hs : starEach [e, e2] X.env = [(false, eval e X.env), (false, eval e2 X.env)] := by rfl) (hs2 : starEach [e2] X.env = [(false, eval e2 X.env)] := by rfl) :
    DI X W tg (.Call (.Name "range" p1) [e, e2] [] pos) (mBind ma fun ds => mOpt (match ds with | [.int i, .int j] => if -(2 ^ 62) ≤ i ∧ i < 2 ^ 62 ∧ -(2 ^ 62) ≤ j ∧ j < 2 ^ 62 then some (rangeD i (j - i).toNat) else none | _ => none)) := by
  refine PIimp (pi_range2 hg hm ha hs hs2) ?_
  rintro σ H R ⟨G, ρ, S, st, p⟩
  refine ⟨G, ρ, S, st, (PostO.bind p).imp fun ds ρ1 G1 H1 S1 _ ⟨t1, p1⟩ v r => ?_⟩
  obtain ⟨ds', e', p2⟩ := PostO.opt p1
  split at e'
  · rename_i i j
    split at e'
    · rename_i hj
      cases e'
      cases r with
      | cons a b =>
        cases a
        cases b with
        | cons a b =>
          cases a
          cases b
          exact ⟨_, _, rfl, hj, p2 _ _ _ (Stp.refl t1.st) _ _ wk_range True.intro⟩
    · cases e'
  · cases e'
theorem di_enum {elts : List Expr} {kk : Nat} {tpos : Pos} (hm : X.mg "enumerate" = none) (h : DE X W e m) (hg : Gl X "enumerate" := by rfl) (hs : starEach [e] X.env = [(false, eval e X.env)] := by rfl) (hs2 : starEach (e :: []) X.env = (false, eval e X.env) :: starEach [] X.env := by rfl) :
    DI X W (.Tuple elts kk tpos) (.Call (.Name "enumerate" p1) [e] [] pos) (mBind m fun d => mOpt (match d with | .lst xs => some (enumD 0 xs) | .rol xs => some (enumD 0 xs) | _ => none)) := by
  refine PIimp (pi_enum hg hm (pa_cons h pa_nil hs2) hs) ?_
  rintro σ H R ⟨G, ρ, S, st, p⟩
  refine ⟨G, ρ, S, st, (PostO.bind p).imp fun d ρ1 G1 H1 S1 _ ⟨t1, p1⟩ v r => ?_⟩
  obtain ⟨ds', e', p2⟩ := PostO.opt p1
  cases r with
  | lst h l => cases e'; exact ⟨_, _, rfl, .inl (.inl (t1.st.sub _ _ h)), p2 _ _ _ (Stp.refl t1.st) _ _ wk_enum ⟨.inl (.inl h), l⟩⟩
  | rol h l => cases e'; exact ⟨_, _, rfl, sqL_rsub t1.st.sub.r h, p2 _ _ _ (Stp.refl t1.st) _ _ wk_enum ⟨h, l⟩⟩
  | _ => cases e'
/-! ### for, while -/
def forL (g : D → Env → Option Env) (b : MS) : List D → Env → Fl
  | [], ρ => .nx ρ
  | d :: ds, ρ => match g d ρ with
    | none => .bad
    | some ρ1 => match b ρ1 with | .nx ρ2 => forL g b ds ρ2 | .ct ρ2 => forL g b ds ρ2 | .bk ρ2 => .nx ρ2 | o => o
def LoopI (K : PySem.W.Frag) (mg : Str → Option Value) (W : WX) (Z : Hp → Prop) (E : Ends) (k : Env → Fl) (σ : Sg) (H : Hp) : Prop := ∃ G ρ S, StOk K mg G H σ ρ S ∧ Z G ∧ PostS K mg W G H S σ ρ (k ρ) E
theorem body_post {K : PySem.W.Frag} {mg : Str → Option Value} {W : WX} {Z : Hp → Prop} {E : Ends} {k : Env → Fl} {G H : Hp} {S : List Addr} {σ : Sg} {ρ : Env} {o : Fl} (hZ : ∀ G G', Sub G G' → Z G → Z G') (z : Z G)
    (p : PostS K mg W G H S σ ρ (match o with | .nx ρ2 => k ρ2 | .ct ρ2 => k ρ2 | .bk ρ2 => .nx ρ2 | o => o) E) :
    PostS K mg W G H S σ ρ o { E with nx := LoopI K mg W Z E k, ct := LoopI K mg W Z E k, bk := E.nx } := by
  cases o with
  | nx ρ2 => exact fun G' H' S' σ' t => ⟨G', ρ2, S', t.st, hZ _ _ t.sub z, PostS.from t p⟩
  | ct ρ2 => exact fun G' H' S' σ' t => ⟨G', ρ2, S', t.st, hZ _ _ t.sub z, PostS.from t p⟩
  | bk ρ2 => exact p
  | rt d ρ2 => exact p
  | err n fs ρ2 => exact p
  | bad => exact p
def sFor (mi : M (List D)) (g : D → Env → Option Env) (b : MS) : MS := fun ρ => (mi ρ).fl fun ds ρ' => forL g b ds ρ'
theorem ds_for {mi : M (List D)} {ws : List Nat} {g : D → Env → Option Env} {b : List Stmt} {mb : MS} (hp : PassesOwn (model X.prog X.w) X.A X.env X.xe) (hc : X.calm = true) (hi : DI X W tg e mi) (hg : DG X tg ws g) (hb : DSs X W b mb) (hs : ∀ x, foldedSetIterable e X.env x = pure x := by intro _; rfl) :
    DS X W (.For tg e b [] pos) (sFor mi g mb) := by
  refine PSimp (ps_for hp hc hi hg hb hs) ?_
  rintro E σ H ⟨G, ρ, S, st, p⟩
  refine ⟨G, ρ, S, st, (PostO.fl p).imp fun ds ρ1 G1 H1 S1 _ ⟨t1, p1⟩ J Z wk z => ?_⟩
  refine ⟨fun i m σ H => m = ds.length - i ∧ i ≤ ds.length ∧ LoopI X.K X.mg W Z E (forL g mb (ds.drop i)) σ H, ⟨_, rfl, Nat.zero_le _, G1, ρ1, S1, t1.st, z, p1⟩, ?_⟩
  rintro i m σ H ⟨rfl, hi, G, ρ, S, st, z, p⟩
  by_cases hlt : i < ds.length
  · refine .inr ⟨wk.go i G H st.sub z hlt, LoopI X.K X.mg W Z E (forL g mb (ds.drop (i + 1))), fun σ' H' q => ⟨ds.length - (i + 1), by omega, rfl, hlt, q⟩, fun x H' y => ?_⟩
    obtain ⟨G', al, r⟩ := wk.yld i G H x H' ds[i] st.sub z y (by simp)
    have t := al.stp st
    have p := PostS.from t p
    rw [List.drop_eq_getElem_cons hlt] at p
    simp only [forL] at p
    cases w : g ds[i] ρ with
    | none => rw [w] at p; exact p.elim
    | some ρ2 =>
      rw [w] at p
      refine ⟨G', ρ, S, ds[i], ρ2, t.st, r, w, fun G3 H3 S3 σ3 t3 _ => ⟨G3, ρ2, S3, t3.st, ?_⟩⟩
      exact body_post wk.mono (wk.mono _ _ (t.sub.trans t3.sub) z) (PostS.from t3 p)
  · have e : i = ds.length := by omega
    subst e
    rw [List.drop_length] at p
    exact .inl ⟨wk.stop G H st.sub z, p _ _ _ _ (Stp.refl st)⟩
def whileL (c : M Bool) (b : MS) : Nat → Env → Fl
  | 0, _ => .bad
  | n + 1, ρ => (c ρ).fl fun t ρ1 => if t then (match b ρ1 with | .nx ρ2 => whileL c b n ρ2 | .ct ρ2 => whileL c b n ρ2 | .bk ρ2 => .nx ρ2 | o => o) else .nx ρ1
/-- at most fuel ρ turns -/
def sWhile (fuel : Env → Nat) (c : M Bool) (b : MS) : MS := fun ρ => whileL c b (fuel ρ) ρ
theorem ds_while (fuel : Env → Nat) {c : Expr} {mc : M Bool} {b : List Stmt} {mb : MS} (hp : PassesOwn (model X.prog X.w) X.A X.env X.xe) (hc : DT X W c mc) (hb : DSs X W b mb) : DS X W (.While c b [] pos) (sWhile fuel mc mb) := by
  refine PSimp (ps_while hp hc hb) ?_
  rintro E σ H ⟨G, ρ, S, st, p⟩
  refine ⟨fun n σ H => LoopI X.K X.mg W (fun _ => True) E (whileL mc mb n) σ H, ⟨fuel ρ, G, ρ, S, st, True.intro, p⟩, ?_⟩
  rintro n σ H ⟨G, ρ, S, st, _, p⟩
  cases n with
  | zero => exact p.elim
  | succ n =>
    refine ⟨G, ρ, S, st, (PostO.fl p).imp fun t ρ1 G1 H1 S1 _ ⟨t1, p1⟩ => ?_⟩
    cases t with
    | true => exact ⟨LoopI X.K X.mg W (fun _ => True) E (whileL mc mb n), fun σ' H' q => ⟨n, Nat.lt_succ_self n, q⟩, G1, ρ1, S1, t1.st, body_post (fun _ _ _ h => h) True.intro p1⟩
    | false => exact p1 _ _ _ _ (Stp.refl t1.st)
end
end FW

set_option Elab.async false
set_option linter.all false
set_option maxRecDepth 100000
set_option maxHeartbeats 400000
/-! FW8: list comprehensions, subscripts, built-in functions. -/
namespace FW
open PySem PySem.Spec L2
variable [Tc]

/-! ### list comprehensions -/
def Sl.free : Sl → Bool | .un => true | .dat _ => true | _ => false
/-- the block's own names forgotten -/
def wipeE : List Nat → Env → Option Env
  | [], ρ => some ρ
  | v :: vs, ρ => match wipeE vs ρ with
    | some ρ' => (match ρ'[v]? with | some s => if s.free then some (ρ'.set v .un) else none | none => none)
    | none => none
def backE (ρ0 : Env) : List Nat → Env → Env
  | [], ρ => ρ
  | v :: vs, ρ => backE ρ0 vs (ρ.set v (ρ0.getD v .un))
section
variable {K : PySem.W.Frag} {mg : Str → Option Value} {G H G' H' G0 H0 : Hp} {S S' S0 : List Addr} {σ σ' σ0 : Sg} {ρ ρ' ρ0 : Env}
theorem free_io {s : Sl} (f : s.free = true) : s.io = true → False := by cases s <;> first | (intro h; cases h; done) | (cases f)
theorem free_nil {s : Sl} {o : Option V} {T : List Addr} (h : SlOk K mg G H s o T) (f : s.free = true) : T = [] := by
  cases h <;> first | rfl | cases f
theorem sls_wipe : ∀ {vs : List Nat} {ρ ρ' : Env}, Sls K mg G H ρ σ S → wipeE vs ρ = some ρ' → Sls K mg G H ρ' (wipe σ vs) S ∧ ρ'.length = ρ.length
  | [], ρ, ρ', h, e => by cases e; exact ⟨h, rfl⟩
  | v :: vs, ρ, ρ', h, e => by
    simp only [wipeE] at e
    cases q : wipeE vs ρ with
    | none => rw [q] at e; cases e
    | some ρ1 =>
      rw [q] at e
      simp only at e
      cases q2 : ρ1[v]? with
      | none => rw [q2] at e; cases e
      | some s =>
        rw [q2] at e
        simp only at e
        split at e
        · rename_i f
          cases e
          obtain ⟨h1, h2⟩ := sls_wipe h q
          obtain ⟨o, S1, T, S2, a1, rfl, a3, a4⟩ := h1.at q2
          obtain rfl := free_nil a3 f
          have := a4 G H .un none [] (Sub.refl _) (fun _ _ => rfl) (.un none)
          exact ⟨this, by simpa using h2⟩
        · cases e
theorem wipe_get : ∀ {vs : List Nat} {j : Nat}, j ∉ vs → (wipe σ vs)[j]? = σ[j]?
  | [], j, h => rfl
  | v :: vs, j, h => by
    simp only [List.mem_cons, not_or] at h
    show ((wipe σ vs).set v none)[j]? = _
    rw [List.getElem?_set_ne (Ne.symm h.1)]
    exact wipe_get h.2
theorem wipe_len : ∀ {vs : List Nat}, (wipe σ vs).length = σ.length
  | [] => rfl
  | v :: vs => by show ((wipe σ vs).set v none).length = _; rw [List.length_set]; exact wipe_len
theorem wipe_none : ∀ {vs : List Nat} {j : Nat}, j ∈ vs → j < σ.length → (wipe σ vs)[j]? = some none
  | [], j, h, _ => by cases h
  | v :: vs, j, h, hl => by
    show ((wipe σ vs).set v none)[j]? = _
    by_cases e : v = j
    · subst e
      exact List.getElem?_set_self (by rw [wipe_len]; exact hl)
    · rw [List.getElem?_set_ne e]
      exact wipe_none (by simpa [Ne.symm e] using h) hl
theorem only_wipe {vs ws : List Nat} (h : Only ws σ σ') (hw : ∀ w ∈ ws, w ∈ vs) : wipe σ' vs = wipe σ vs := by
  apply List.ext_getElem?
  intro j
  by_cases e : j ∈ vs
  · by_cases l : j < σ.length
    · rw [wipe_none e l, wipe_none e (by rw [h.1]; exact l)]
    · rw [List.getElem?_eq_none (by rw [wipe_len, h.1]; omega), List.getElem?_eq_none (by rw [wipe_len]; omega)]
  · rw [wipe_get e, wipe_get e]
    exact h.2 j fun z => e (hw j z)
theorem wipe_wipe {vs : List Nat} : wipe (wipe σ vs) vs = wipe σ vs := by
  apply List.ext_getElem?
  intro j
  by_cases e : j ∈ vs
  · by_cases l : j < σ.length
    · rw [wipe_none e l, wipe_none e (by rw [wipe_len]; exact l)]
    · rw [List.getElem?_eq_none (by rw [wipe_len, wipe_len]; omega), List.getElem?_eq_none (by rw [wipe_len]; omega)]
  · rw [wipe_get e, wipe_get e]
/-- the state inside a block's turn -/
theorem wipe_stp {vs : List Nat} (t : Stp K mg G0 H0 S0 σ0 ρ0 G H S σ ρ) (e : wipeE vs ρ = some ρ') : Stp K mg G0 H0 S0 σ0 ρ0 G H S (wipe σ vs) ρ' := by
  obtain ⟨h1, h2⟩ := sls_wipe t.st.sls e
  refine ⟨t.sub, t.keep, t.own, t.trk, fun i s hi hio => ?_, ⟨t.st.sub, h1, t.st.nd, t.st.out, t.st.gno, t.st.tab⟩⟩
  have : ∀ {vs : List Nat} {ρ' : Env}, wipeE vs ρ = some ρ' → ρ'[i]? = some s → i ∉ vs ∧ ρ[i]? = some s := by
    intro vs
    induction vs with
    | nil => intro ρ' e h; cases e; exact ⟨by simp, h⟩
    | cons v vs ih =>
      intro ρ' e h
      simp only [wipeE] at e
      cases q : wipeE vs ρ with
      | none => rw [q] at e; cases e
      | some ρ1 =>
        rw [q] at e
        simp only at e
        cases q2 : ρ1[v]? with
        | none => rw [q2] at e; cases e
        | some s2 =>
          rw [q2] at e
          simp only at e
          split at e
          · cases e
            by_cases z : v = i
            · subst z
              have hl : v < ρ1.length := (List.getElem?_eq_some_iff.mp q2).1
              rw [List.getElem?_set_self hl] at h; cases h; cases hio
            · rw [List.getElem?_set_ne z] at h
              obtain ⟨g1, g2⟩ := ih q h
              exact ⟨by simp only [List.mem_cons, not_or]; exact ⟨fun y => z y.symm, g1⟩, g2⟩
          · cases e
  obtain ⟨g1, g2⟩ := this e hi
  rw [wipe_get g1]
  exact t.back i s g2 hio
/-- behind the block: the block's names are what they were -/
theorem back_stp {G1 H1 : Hp} : ∀ (vs : List Nat) (σw : Sg) (ρ1 : Env) (S1 : List Addr), StOk K mg G H σ ρ S → Stp K mg G H S σ ρ G1 H1 S1 σw ρ1 → (∀ v ∈ vs, ∃ s, ρ[v]? = some s ∧ s.free = true) → (∀ v ∈ vs, ∃ s, ρ1[v]? = some s ∧ s.free = true) →
    (∀ j, j ∉ vs → σw[j]? = σ[j]?) → σw.length = σ.length → ∃ S2, (∀ a ∈ S2, a ∈ S1) ∧ Stp K mg G H S σ ρ G1 H1 S2 σ (backE ρ vs ρ1)
  | [], σw, ρ1, S1, st, t, _, _, h, hl => by
    have : σw = σ := List.ext_getElem? fun j => h j (by simp)
    subst this
    exact ⟨S1, fun _ h => h, t⟩
  | v :: vs, σw, ρ1, S1, st, t, f0, f1, h, hl => by
    obtain ⟨s0, e0, g0⟩ := f0 v (by simp)
    obtain ⟨s1, e1, g1⟩ := f1 v (by simp)
    obtain ⟨o0, A0, T0, B0, a1, a2, a3, _⟩ := st.sls.at e0
    obtain rfl := free_nil a3 g0
    obtain ⟨o1, A1, T1, B1, b1, rfl, b3, b4⟩ := t.st.sls.at e1
    obtain rfl := free_nil b3 g1
    have q := b4 G1 H1 s0 o0 [] (Sub.refl _) (fun _ _ => rfl) (a3.mono t.sub (by simp))
    have eD : ρ.getD v .un = s0 := by simp [List.getD_eq_getElem?_getD, e0]
    have hv : v < σw.length := (List.getElem?_eq_some_iff.mp b1).1
    have t' : Stp K mg G H S σ ρ G1 H1 (A1 ++ [] ++ B1) (σw.set v o0) (ρ1.set v (ρ.getD v .un)) := by
      rw [eD]
      refine ⟨t.sub, t.keep, t.own, t.trk, fun i s hi hio => ?_, ⟨t.st.sub, q, t.st.nd, t.st.out, t.st.gno, t.st.tab⟩⟩
      have hv1 : v < ρ1.length := (List.getElem?_eq_some_iff.mp e1).1
      by_cases z : v = i
      · subst z
        rw [List.getElem?_set_self hv1] at hi; cases hi
        exact (free_io g0 hio).elim
      · rw [List.getElem?_set_ne z] at hi
        rw [List.getElem?_set_ne z]
        exact t.back i s hi hio
    refine back_stp vs _ _ _ st t' (fun w hw => f0 w (by simp [hw])) (fun w hw => ?_) (fun j hj => ?_) ((List.length_set (as := σw) (i := v) (a := o0)).trans hl)
    · obtain ⟨s, e, g⟩ := f1 w (by simp [hw])
      by_cases z : v = w
      · subst z
        have hv1 : v < ρ1.length := (List.getElem?_eq_some_iff.mp e1).1
        exact ⟨s0, by rw [eD, List.getElem?_set_self hv1], g0⟩
      · exact ⟨s, by rw [List.getElem?_set_ne z]; exact e, g⟩
    · by_cases z : v = j
      · subst z
        rw [List.getElem?_set_self hv, a1]
      · rw [List.getElem?_set_ne z]
        exact h j (by simp only [List.mem_cons, not_or]; exact ⟨fun y => z y.symm, hj⟩)
end
/-- the block's turns, from the left; acc: what is made so far -/
def compL (vs : List Nat) (g : D → Env → Option Env) (mt : M Bool) (me : M D) : List D → Env → List D → Out (List D)
  | [], ρ, acc => .ok acc ρ
  | d :: ds, ρ, acc => match g d ρ with
    | none => .bad
    | some ρ1 => match mt ρ1 with
      | .ok true ρ2 => (match me ρ2 with
        | .ok y ρ3 => (match wipeE vs ρ3 with | some ρ4 => compL vs g mt me ds ρ4 (acc ++ [y]) | none => .bad)
        | _ => .bad)
      | .ok false ρ2 => (match wipeE vs ρ2 with | some ρ4 => compL vs g mt me ds ρ4 acc | none => .bad)
      | _ => .bad
def freeAll (vs : List Nat) (ρ : Env) : Bool := vs.all fun v => match ρ[v]? with | some s => s.free | none => false
def mLc (vs : List Nat) (mi : M (List D)) (g : D → Env → Option Env) (mt : M Bool) (me : M D) : M Sl := mBind mi fun ds ρ => if decide (ds.length ≤ sizeLine) && freeAll vs ρ then
    (match wipeE vs ρ with
    | some ρ0 => (match compL vs g mt me ds ρ0 [] with
      | .ok ys ρ1 => if freeAll vs ρ1 then .ok (.lst false ys) (backE ρ vs ρ1) else .bad
      | _ => .bad)
    | none => .bad) else .bad
def W0 : WX := fun _ _ _ _ => False
theorem freeAll_at {vs : List Nat} {ρ : Env} (h : freeAll vs ρ = true) : ∀ v ∈ vs, ∃ s, ρ[v]? = some s ∧ s.free = true := fun v hv => by
  unfold freeAll at h
  rw [List.all_eq_true] at h
  have := h v hv
  cases q : ρ[v]? with
  | none => rw [q] at this; cases this
  | some s => rw [q] at this; exact ⟨s, rfl, this⟩
section
variable {X : Cx} {W : WX}
abbrev DTs (X : Cx) (W : WX) (ifs : List Expr) (m : M Bool) : Prop := PTs X ifs (rdT X.K X.mg W m)
theorem dts_nil : DTs X W [] (mPure true) := ⟨fun pins s σ H Q I ⟨G, ρ, S, st, p⟩ => pts_nil.run pins s σ H Q I (p _ _ _ (Stp.refl st))⟩
theorem dts_one {c : Expr} {m : M Bool} (h : DT X W c m) : DTs X W [c] m := pts_one h
/-- the reading of a comprehension is what compL says -/
theorem lc_reads {K : PySem.W.Frag} {mg : Str → Option Value} {mi : M (List D)} {g : D → Env → Option Env} {mt : M Bool} {me : M D} {vs ws : List Nat} (hws : ∀ w ∈ ws, w ∈ vs) (σ : St) (H : Hp) (Q : VK)
    (h : rdX K mg W (mLc vs mi g mt me) σ H Q) : tLc (rdI K mg W mi) (rdG K mg ws g) (rdT K mg W0 mt) (rdE K mg W0 me) vs σ H Q := by
  obtain ⟨G, ρ, S, st, p⟩ := h
  refine ⟨G, ρ, S, st, (PostO.bind0 p).imp fun ds ρ1 G1 H1 S1 _ ⟨t1, p1⟩ J Z wk z D hD => ?_⟩
  split at p1
  · rename_i hh
    rw [Bool.and_eq_true, decide_eq_true_eq] at hh
    cases e0 : wipeE vs ρ1 with
    | none => rw [e0] at p1; exact p1.elim
    | some ρ0 =>
      rw [e0] at p1
      simp only at p1
      cases e1 : compL vs g mt me ds ρ0 [] with
      | err _ _ _ => rw [e1] at p1; exact p1.elim
      | bad => rw [e1] at p1; exact p1.elim
      | ok ys ρe =>
        rw [e1] at p1
        simp only at p1
        split at p1
        · rename_i hfe
          have hD0 : Nt H D := t1.trk D (nt_none hD)
          -- the state in the block: σw; from the block's entry (G, H, S, σ, ρ)
          refine ⟨fun i m H' => m = ds.length - i ∧ i ≤ ds.length ∧ ∃ G' ρ' S' acc, Stp K mg G1 H1 S1 σ ρ1 G' H' S' (wipe σ vs) ρ' ∧ (G' D = none ∧ D ∉ S') ∧ Z G' ∧ (∃ vsA, H' D = some (.lst vsA) ∧ RepL K mg G' acc vsA) ∧ acc.length ≤ i ∧ compL vs g mt me (ds.drop i) ρ' acc = .ok ys ρe,
            ⟨_, rfl, Nat.zero_le _, ?_⟩, ?_⟩
          · have al := Al.newH (o := .lst []) t1.st.sub hD
            have t2 := al.stp t1.st
            have t3 := wipe_stp t2 e0
            exact ⟨G1, ρ0, S1, [], t3, ⟨t1.st.sub.ne hD, fun q => t1.st.sls.notNt q (nt_none hD)⟩, z, ⟨[], upd_same, .nil⟩, Nat.le_refl _, e1⟩
          · rintro i m H' ⟨rfl, hi, G', ρ', S', acc, t, ⟨kD, kS⟩, z', ⟨va, hva, ra⟩, hacc, ec⟩
            by_cases hlt : i < ds.length
            · refine .inr ⟨wk.go i G' H' t.st.sub z' hlt, _, fun H2 q => ⟨ds.length - (i + 1), by omega, rfl, hlt, q⟩, fun x H2 y => ?_⟩
              obtain ⟨G2, al, r⟩ := wk.yld i G' H' x H2 ds[i] t.st.sub z' y (by simp)
              have t2 := t.trans (al.stp t.st)
              have z2 := wk.mono _ _ al.sub z'
              rw [List.drop_eq_getElem_cons hlt] at ec
              simp only [compL] at ec
              cases w : g ds[i] ρ' with
              | none => rw [w] at ec; cases ec
              | some ρ2 =>
                rw [w] at ec
                simp only at ec
                refine ⟨G2, ρ', S', ds[i], ρ2, t2.st, r, w, fun G3 H3 S3 σ3 t3 o3 => ⟨?_, G3, ρ2, S3, t3.st, ?_⟩⟩
                · rw [only_wipe o3 hws, wipe_wipe]
                · have w3 : wipe σ3 vs = wipe σ vs := by rw [only_wipe o3 hws, wipe_wipe]
                  have t23 := t2.trans t3
                  have z3 := wk.mono _ _ t3.sub z2
                  have D2 : G2 D = none ∧ H2 D = some (.lst va) := ⟨(al.keep D _ hva).2 kD, (al.keep D _ hva).1⟩
                  have D3 : G3 D = none ∧ H3 D = some (.lst va) := t3.keep D _ D2.2 ntb_lst D2.1 kS
                  have ra3 := (ra.sub al.sub).sub t3.sub
                  have kS3 : D ∉ S3 := fun q => by
                    rcases t3.own D q with q | q
                    · exact kS q
                    · exact nt_not q D2.2 ntb_lst
                  cases w4 : mt ρ2 with
                  | err _ _ _ => rw [w4] at ec; cases ec
                  | bad => rw [w4] at ec; cases ec
                  | ok b ρ4 =>
                    rw [w4] at ec
                    intro G4 H4 S4 t4
                    have t24 := t23.trans t4
                    have z4 := wk.mono _ _ t4.sub z3
                    have D4 := t4.keep D _ D3.2 ntb_lst D3.1 kS3
                    have kS4 : D ∉ S4 := fun q => by
                      rcases t4.own D q with q | q
                      · exact kS3 q
                      · exact nt_not q D3.2 ntb_lst
                    cases b with
                    | false =>
                      simp only at ec
                      cases w5 : wipeE vs ρ4 with
                      | none => rw [w5] at ec; cases ec
                      | some ρ5 =>
                        rw [w5] at ec
                        have t5 := wipe_stp t24 w5
                        rw [w3] at t5
                        exact ⟨G4, ρ5, S4, acc, t5, ⟨D4.1, kS4⟩, z4, ⟨va, D4.2, ra3.sub t4.sub⟩, by omega, ec⟩
                    | true =>
                      simp only at ec
                      refine ⟨G4, ρ4, S4, t4.st, ?_⟩
                      cases w6 : me ρ4 with
                      | err _ _ _ => rw [w6] at ec; cases ec
                      | bad => rw [w6] at ec; cases ec
                      | ok y ρ6 =>
                        rw [w6] at ec
                        simp only at ec
                        intro G6 H6 S6 t6 v6 r6
                        have D6 := t6.keep D _ D4.2 ntb_lst D4.1 kS4
                        have kS6 : D ∉ S6 := fun q => by
                          rcases t6.own D q with q | q
                          · exact kS4 q
                          · exact nt_not q D4.2 ntb_lst
                        cases w7 : wipeE vs ρ6 with
                        | none => rw [w7] at ec; cases ec
                        | some ρ7 =>
                          rw [w7] at ec
                          have t7 := wipe_stp (t24.trans t6) w7
                          rw [w3] at t7
                          have lenA : va.length = acc.length := ra.length.symm
                          refine ⟨va, D6.2, by omega, G6, ρ7, S6, acc ++ [y], ?_, ⟨D6.1, kS6⟩, wk.mono _ _ t6.sub z4, ⟨_, upd_same, ((ra3.sub t4.sub).sub t6.sub).append (.cons r6 .nil)⟩, by simp; omega, ec⟩
                          refine ⟨t7.sub, fun a u h nt n hs => ?_, t7.own, fun a h => ?_, t7.back, ⟨fun a u h => ?_, t7.st.sls.mono (Sub.refl _) fun a ha => upd_ne fun q => kS6 (q ▸ ha), t7.st.nd, t7.st.out, t7.st.gno, tabs_upd t7.st.tab D6.2 ntb_lst fun _ h => nomatch h⟩⟩
                          · have q : a ≠ D := fun q => by rw [q, hD] at h; cases h
                            have := t7.keep a u h nt n hs
                            exact ⟨this.1, by rw [upd_ne q]; exact this.2⟩
                          · by_cases q : a = D
                            · subst q; exact nt_none hD
                            · exact t7.trk a fun u e => h u (by rw [upd_ne q]; exact e)
                          · rw [upd_ne (fun q => by rw [q, D6.1] at h; cases h)]
                            exact t7.st.sub a u h
            · have e : i = ds.length := by omega
              subst e
              rw [List.drop_length] at ec
              cases ec
              refine .inl ⟨wk.stop G' H' t.st.sub z', ?_⟩
              obtain ⟨S9, s9, t9⟩ := back_stp vs _ _ _ t1.st t (freeAll_at hh.2) (freeAll_at hfe) (fun j hj => wipe_get hj) wipe_len
              have t19 := t1.trans t9
              have kS9 : D ∉ S9 := fun q => kS (s9 D q)
              exact p1 _ _ _ t19 (.ref D) [D] rfl (.lst hva ra) (fun a ha => by simp at ha; subst ha; exact ⟨hD0, kS9, kD⟩) (by simp)
        · exact p1.elim
  · exact p1.elim
theorem RDXimp {e : Expr} {t : TE} {m : M Sl} (h : PE X e t) (i : ∀ σ H Q, rdX X.K X.mg W m σ H Q → t σ H Q) : DX X W e m := PEimp h i
variable {elt tg iter : Expr} {ifs : List Expr} {scope : Scope} {own : List (Str × Nat)} {pos p1 spos : Pos} {mi : M (List D)} {g : D → Env → Option Env} {mt : M Bool} {me : M D} {ws : List Nat}
/-- [elt for tg in iter if ..] -/
theorem dx_lc (own : List (Str × Nat)) (hc : X.calm = true) (hN : X.N.Nodup) (hi : DI X W tg iter mi) (ok : BlkOk X.N X.env.scope scope own) (hws : ∀ w ∈ ws, w ∈ own.map (·.2))
    (hg : ∀ (s : Shared) (H : Hp) (C : Addr) (cl : List (Str × Addr)) (fp : List Addr), DG (X.blk s H scope (compEnvC scope cl C X.env) fp) tg ws g)
    (ht : ∀ (s : Shared) (H : Hp) (C : Addr) (cl : List (Str × Addr)) (fp : List Addr), DTs (X.blk s H scope (compEnvC scope cl C X.env) fp) W0 ifs mt)
    (he : ∀ (s : Shared) (H : Hp) (C : Addr) (cl : List (Str × Addr)) (fp : List Addr), DE (X.blk s H scope (compEnvC scope cl C X.env) fp) W0 elt me) (hs : ∀ x, foldedSetIterable iter X.env x = pure x := by intro _; rfl) :
    DX X W (.ListComp elt [⟨tg, iter, ifs, 0⟩] scope pos) (mLc (own.map (·.2)) mi g mt me) :=
  PEimp (pe_lc hc hN hi ok hg ht he hs) fun σ H Q h => lc_reads hws σ H Q h
/-- name = [..], in one line, the name a local -/
theorem ds_setLc (i : Nat) (own : List (Str × Nat)) {y : Str} (hc : X.calm = true) (hN : X.N.Nodup) (hi : DI X W tg iter mi) (ok : BlkOk X.N X.env.scope scope own) (hws : ∀ w ∈ ws, w ∈ own.map (·.2))
    (hg : ∀ (s : Shared) (H : Hp) (C : Addr) (cl : List (Str × Addr)) (fp : List Addr), DG (X.blk s H scope (compEnvC scope cl C X.env) fp) tg ws g)
    (ht : ∀ (s : Shared) (H : Hp) (C : Addr) (cl : List (Str × Addr)) (fp : List Addr), DTs (X.blk s H scope (compEnvC scope cl C X.env) fp) W0 ifs mt)
    (he : ∀ (s : Shared) (H : Hp) (C : Addr) (cl : List (Str × Addr)) (fp : List Addr), DE (X.blk s H scope (compEnvC scope cl C X.env) fp) W0 elt me) (hs : ∀ x, foldedSetIterable iter X.env x = pure x := by intro _; rfl)
    (hy : X.N[i]? = some y := by rfl) (hyl : X.env.scope.names.lookup y = some .local := by rfl)
    (hsw : swapsWith (.ListComp elt [⟨tg, iter, ifs, 0⟩] scope pos) (some (.Name y p1)) spos.line X.env = pure true := by exact sw_true rfl rfl rfl (by decide +kernel)) :
    DS X W (.Assign [.Name y p1] (.ListComp elt [⟨tg, iter, ifs, 0⟩] scope pos) spos) (sSetX i (mLc (own.map (·.2)) mi g mt me)) := by
  refine PSimp (ps_setLc (g := rdG X.K X.mg ws g) (tt := rdT X.K X.mg W0 mt) (te := rdE X.K X.mg W0 me) hc hN hy hyl hsw hi ok hg ht he hs) ?_
  rintro E σ H ⟨G, ρ, S, st, p⟩
  refine lc_reads hws σ H _ ⟨G, ρ, S, st, (PostO.fl0 p).imp fun s ρ1 G1 H1 S1 _ ⟨t1, p1⟩ v T hio ok hT nd => ?_⟩
  rw [hio] at p1
  unfold sPut at p1
  cases w : put ρ1 i s with
  | none => rw [w] at p1; exact p1.elim
  | some ρ2 =>
    rw [w] at p1
    obtain ⟨S', t⟩ := set_stp t1 w hio ok hT nd
    exact p1 _ _ _ _ t
end
end FW

set_option Elab.async false
set_option linter.all false
set_option maxRecDepth 100000
set_option maxHeartbeats 400000
/-! FW9: subscripts, built-in functions. -/
namespace FW
open PySem PySem.Spec L2
variable [Tc]

theorem atI_rep {K : PySem.W.Frag} {mg : Str → Option Value} {G : Hp} {ds : List D} {vs : List V} {i : Int} {d : D} (h : RepL K mg G ds vs) (e : atI ds i = some d) : ∃ v, atI vs i = some v ∧ Rep K mg G d v := by
  unfold atI at e ⊢
  rw [← h.length]
  cases q : ixN ds.length i with
  | none => rw [q] at e; cases e
  | some j =>
    rw [q] at e
    exact h.get e
/-- xs[i] -/
def dIx : D → D → Option D
  | .lst xs, .int i => atI xs i
  | .rol xs, .int i => atI xs i
  | .tup xs, .int i => atI xs i
  | .str z, .int i => if z.length ≤ sizeLine then (atI z.cps.toList i).map fun c => .str ⟨#[c]⟩ else none
  | _, _ => none
section
variable {X : Cx} {W : WX} {a b e : Expr} {es : List Expr} {m n : M D} {ma : M (List D)} {pos p1 p2 : Pos}
theorem de_ix (ha : DE X W a m) (hb : DE X W b n) (hs : PlainIx b := by exact fun _ _ => rfl) : DE X W (.Subscript a b pos) (mOp dIx m n) := by
  refine PEimp (pe_ix ix_seq ha hb hs) ?_
  rintro σ H Q ⟨G, ρ, S, st, p⟩
  refine ⟨G, ρ, S, st, (PostO.bind p).imp fun d1 ρ1 G1 H1 S1 _ ⟨t1, p1⟩ v1 r1 => ⟨G1, ρ1, S1, t1.st, (PostO.bind p1).imp fun d2 ρ2 G2 H2 S2 _ ⟨t2, p2⟩ v2 r2 => ?_⟩⟩
  obtain ⟨d, e, p3⟩ := PostO.opt p2
  have r1 := r1.sub t2.sub
  have sq := t2.st.sub
  cases r1 with
  | lst h l =>
    cases r2 with
    | int i => obtain ⟨v, h1, h2⟩ := atI_rep l e; exact .inl ⟨_, _, i, v, rfl, rfl, .inl (.inl (sq _ _ h)), h1, p3 _ _ _ (Stp.refl t2.st) _ h2⟩
    | _ => cases e
  | rol h l =>
    cases r2 with
    | int i => obtain ⟨v, h1, h2⟩ := atI_rep l e; exact .inl ⟨_, _, i, v, rfl, rfl, sqL_rsub sq.r h, h1, p3 _ _ _ (Stp.refl t2.st) _ h2⟩
    | _ => cases e
  | tup h l =>
    cases r2 with
    | int i => obtain ⟨v, h1, h2⟩ := atI_rep l e; exact .inr (.inl ⟨_, _, i, v, rfl, rfl, sqT_rsub sq.r h, h1, p3 _ _ _ (Stp.refl t2.st) _ h2⟩)
    | _ => cases e
  | str z =>
    cases r2 with
    | int i =>
      simp only [dIx] at e
      split at e
      · rename_i hl
        cases q : atI z.cps.toList i with
        | none => rw [q] at e; cases e
        | some c => rw [q] at e; cases e; exact .inr (.inr ⟨z, i, c, rfl, rfl, hl, q, p3 _ _ _ (Stp.refl t2.st) _ (.str _)⟩)
      · cases e
    | _ => cases e
  | _ => cases e

/-! ### isinstance of built-in classes -/
def tyD : D → Option String
  | .non => some "NoneType" | .bl _ => some "bool" | .int _ => some "int" | .str _ => some "str"
  | .lst _ => some "list" | .rol _ => some "list" | .tup _ => some "tuple" | .dK _ => some "dict" | _ => none
theorem ty_rep {G H : Hp} {d : D} {v : V} {t : String} (s : Sub G H) (r : Rep X.K X.mg G d v) (e : tyD d = some t) : TyX X.K H v (.type t) := by
  cases r with
  | non => cases e; exact .base .non
  | bl b => cases e; exact .base (.bl b)
  | int i => cases e; exact .base (.int i)
  | str x => cases e; exact .base (.str x)
  | lst h l => cases e; exact .base (.lst (s _ _ h))
  | rol h l =>
    cases e
    rcases sqL_rsub s.r h with (h | ⟨o, h⟩) | ⟨o, its, n, h1, h2, _⟩
    · exact .base (.lst h)
    · exact .base (.frz h)
    · exact .kList h1 h2
  | tup h l =>
    cases e
    rcases sqT_rsub s.r h with (h | ⟨o, h⟩) | ⟨o, its, n, h1, h2, _⟩
    · exact .base (.tup h)
    · exact .fTuple h
    · exact .kTuple h1 h2
  | dK h l =>
    cases e
    rcases s.r.1 _ _ h with h | ⟨o, h⟩
    · exact .base (.dK h)
    · exact .fDict h
  | _ => cases e
/-- is a value of the type t of one of the classes -/
def kitBs (t : String) : List String → Option Bool
  | [] => some false
  | c :: cs => match kitB t c with | some true => some true | some false => kitBs t cs | none => none
theorem kitBs_any {K : PySem.W.Frag} {t : String} : ∀ {cs : List String} {b : Bool}, kitBs t cs = some b → PySem.W.kitAny K (.type t) (cs.map Value.type) = some b
  | [], b, e => by cases e; rfl
  | c :: cs, b, e => by
    simp only [kitBs] at e
    cases q : kitB t c with
    | none => rw [q] at e; cases e
    | some k =>
      rw [q] at e
      refine kitAny_cons (kit_ty q) (fun z => ?_) (fun z => ?_)
      · subst z; exact kitBs_any e
      · subst z; cases e; rfl
def dIsi (cs : List String) (d : D) : Option Bool := match tyD d with | some t => kitBs t cs | none => none
def mIsi (cs : List String) (m : M D) : M D := mBind m fun d => mOpt ((dIsi cs d).map .bl)
theorem dIsi_some {cs : List String} {d r : D} (e : (dIsi cs d).map .bl = some r) : ∃ t b, tyD d = some t ∧ kitBs t cs = some b ∧ r = .bl b := by
  unfold dIsi at e
  cases q : tyD d with
  | none => rw [q] at e; cases e
  | some t =>
    rw [q] at e
    simp only at e
    cases q2 : kitBs t cs with
    | none => rw [q2] at e; cases e
    | some b => rw [q2] at e; cases e; exact ⟨t, b, rfl, q2, rfl⟩
theorem kitBs_one {K : PySem.W.Frag} {t c : String} {b : Bool} (e : kitBs t [c] = some b) : PySem.W.kitOne K (.type t) (.type c) = some b := by
  simp only [kitBs] at e
  cases q : kitB t c with
  | none => rw [q] at e; cases e
  | some k => rw [q] at e; cases k <;> cases e <;> exact kit_ty q
/-- isinstance(e, T) -/
theorem de_isi {T : String} {x : Str} (hi : X.mg "isinstance" = none) (hT : X.mg x = none) (hv : bootBuiltins x = some (.type T)) (ha : DE X W e m) (hgi : Gl X "isinstance" := by rfl) (hgx : Gl X x := by rfl) (hn : x ≠ "__name__" := by decide) (hdb : (x == ("__debug__" : Str)) = false := by decide)
    (h1 : starEach (e :: [.Name x p2]) X.env = (false, eval e X.env) :: starEach [.Name x p2] X.env := by rfl) (h2 : starEach (.Name x p2 :: []) X.env = (false, eval (.Name x p2) X.env) :: starEach [] X.env := by rfl)
    (hpl : (backTo pos (starEach [.Name x p2] X.env)).any (·.1) = false := by rfl) :
    DE X W (.Call (.Name "isinstance" p1) [e, .Name x p2] [] pos) (mIsi [T] m) := by
  refine PEimp (pe_callB call_isi hgi hi PyProof.Rows.boot_isinstance (pa_cons ha (pa_cons (pe_bltn (v := .ty T) hgx hT hv rfl hn hdb) pa_nil h2) h1) (by decide) (by decide) h1 hpl) ?_
  rintro σ H Q ⟨G, ρ, S, st, p⟩
  refine ⟨G, ρ, S, st, (PostO.bind p).imp fun d ρ1 G1 H1 S1 _ ⟨t1, p1⟩ v r => ?_⟩
  obtain ⟨d', e', p2⟩ := PostO.opt p1
  obtain ⟨t, b, q1, q2, rfl⟩ := dIsi_some e'
  exact ⟨v, .ty T, .type t, .type T, b, rfl, .ty T, ty_rep t1.st.sub r q1, kitBs_one q2, p2 _ _ _ (Stp.refl t1.st) _ (.bl b)⟩
/-- isinstance(e, (T, U)) -/
theorem de_isi2 {T U : String} {x y : Str} {p3 p4 : Pos} {kn : Nat} (hi : X.mg "isinstance" = none) (hT : X.mg x = none) (hv : bootBuiltins x = some (.type T)) (hU : X.mg y = none) (hvU : bootBuiltins y = some (.type U)) (ha : DE X W e m) (hgi : Gl X "isinstance" := by rfl) (hgx : Gl X x := by rfl) (hgy : Gl X y := by rfl)
    (hn : x ≠ "__name__" := by decide) (hdb : (x == ("__debug__" : Str)) = false := by decide) (hny : y ≠ "__name__" := by decide) (hdy : (y == ("__debug__" : Str)) = false := by decide)
    (h1 : starEach (e :: [.Tuple [.Name x p2, .Name y p3] kn p4]) X.env = (false, eval e X.env) :: starEach [.Tuple [.Name x p2, .Name y p3] kn p4] X.env := by rfl)
    (h2 : starEach (.Tuple [.Name x p2, .Name y p3] kn p4 :: []) X.env = (false, eval (.Tuple [.Name x p2, .Name y p3] kn p4) X.env) :: starEach [] X.env := by rfl)
    (h3 : starEach (.Name x p2 :: [.Name y p3]) X.env = (false, eval (.Name x p2) X.env) :: starEach [.Name y p3] X.env := by rfl) (h4 : starEach (.Name y p3 :: []) X.env = (false, eval (.Name y p3) X.env) :: starEach [] X.env := by rfl)
    (hpl : (backTo pos (starEach [.Tuple [.Name x p2, .Name y p3] kn p4] X.env)).any (·.1) = false := by rfl) :
    DE X W (.Call (.Name "isinstance" p1) [e, .Tuple [.Name x p2, .Name y p3] kn p4] [] pos) (mIsi [T, U] m) := by
  refine PEimp (pe_callB call_isiT hgi hi PyProof.Rows.boot_isinstance (pa_cons ha (pa_cons (pe_tup (pa_cons (pe_bltn (v := .ty T) hgx hT hv rfl hn hdb) (pa_cons (pe_bltn (v := .ty U) hgy hU hvU rfl hny hdy) pa_nil h4) h3)) pa_nil h2) h1) (by decide) (by decide) h1 hpl) ?_
  rintro σ H Q ⟨G, ρ, S, st, p⟩
  refine ⟨G, ρ, S, st, (PostO.bind p).imp fun d ρ1 G1 H1 S1 _ ⟨t1, p1⟩ v r => ?_⟩
  obtain ⟨d', e', p2⟩ := PostO.opt p1
  obtain ⟨t, b, q1, q2, rfl⟩ := dIsi_some e'
  refine ⟨by show 2 ≤ sizeLine; decide, fun q hq => ?_⟩
  have al := Al.newH (o := .tup [.ty T, .ty U]) t1.st.sub hq
  exact ⟨v, q, [.ty T, .ty U], .type t, [.type T, .type U], b, rfl, upd_same, .cons (.ty T) (.cons (.ty U) .nil), ty_rep al.subH r q1, kitBs_any q2, p2 _ _ _ (al.stp t1.st) _ (.bl b)⟩

/-! ### len, all, any, tuple, list, abs, int -/
def gLen : List D → Option D
  | [.lst xs] => some (.int xs.length) | [.rol xs] => some (.int xs.length) | [.tup xs] => some (.int xs.length)
  | [.str x] => if x.length ≤ sizeLine then some (.int x.length) else none | _ => none
theorem c_len : HasCall X (.builtin "len") gLen := by
  refine ⟨fun xs H Q => (∃ p ys, xs = [.ref p] ∧ (SqL X.K H p ys ∨ SqT X.K H p ys) ∧ Q (.int ys.length) H) ∨ ∃ z, xs = [.str z] ∧ z.length ≤ sizeLine ∧ Q (.int z.length) H, fun pins s σ H xs us Q I r h => h.elim (call_len_seq pins s σ H xs us Q I r) (call_len_str pins s σ H xs us Q I r), fun G H ds d xs Q s rs e q => ?_⟩
  cases rs with
  | nil => cases e
  | cons a b =>
    cases b with
    | cons _ _ => cases a <;> cases e
    | nil =>
      cases a with
      | lst h l => cases e; exact .inl ⟨_, _, rfl, .inl (.inl (.inl (s _ _ h))), q _ _ _ (Al.refl s) (by rw [← l.length]; exact .int _)⟩
      | rol h l => cases e; exact .inl ⟨_, _, rfl, .inl (sqL_rsub s.r h), q _ _ _ (Al.refl s) (by rw [← l.length]; exact .int _)⟩
      | tup h l => cases e; exact .inl ⟨_, _, rfl, .inr (sqT_rsub s.r h), q _ _ _ (Al.refl s) (by rw [← l.length]; exact .int _)⟩
      | str x =>
        simp only [gLen] at e
        split at e
        · rename_i hl; cases e; exact .inr ⟨x, rfl, hl, q _ _ _ (Al.refl s) (.int _)⟩
        · cases e
      | _ => cases e
def blsD : List D → Option (List Bool) | [] => some [] | .bl b :: ds => (blsD ds).map (b :: ·) | _ => none
theorem bls_rep {G : Hp} : ∀ {ds : List D} {vs : List V} {bs : List Bool}, RepL X.K X.mg G ds vs → blsD ds = some bs → vs = bs.map V.bl
  | [], _, _, .nil, e => by cases e; rfl
  | .bl b :: ds, _, _, .cons (.bl _) l, e => by
    simp only [blsD] at e
    cases q : blsD ds with
    | none => rw [q] at e; cases e
    | some bs => rw [q] at e; cases e; rw [bls_rep l q]; rfl
def gAll : List D → Option D | [.lst xs] => (blsD xs).map fun bs => .bl (bs.all id) | _ => none
def gAny : List D → Option D | [.lst xs] => (blsD xs).map fun bs => .bl (bs.any id) | _ => none
theorem c_all (hc : X.calm = true) : HasCall X (.builtin "all") gAll := by
  refine ⟨_, cr_all hc, fun G H ds d xs Q s rs e q => ?_⟩
  cases rs with
  | nil => cases e
  | cons a b =>
    cases b with
    | cons _ _ => cases a <;> cases e
    | nil =>
      cases a with
      | @lst ys _ _ h l =>
        simp only [gAll] at e
        cases w : blsD ys with
        | none => rw [w] at e; cases e
        | some bs =>
          rw [w] at e; cases e
          exact ⟨_, bs, rfl, .inl (.inl (by rw [← bls_rep l w]; exact s _ _ h)), q _ _ _ (Al.refl s) (.bl _)⟩
      | _ => cases e
theorem c_any (hc : X.calm = true) : HasCall X (.builtin "any") gAny := by
  refine ⟨_, cr_any hc, fun G H ds d xs Q s rs e q => ?_⟩
  cases rs with
  | nil => cases e
  | cons a b =>
    cases b with
    | cons _ _ => cases a <;> cases e
    | nil =>
      cases a with
      | @lst ys _ _ h l =>
        simp only [gAny] at e
        cases w : blsD ys with
        | none => rw [w] at e; cases e
        | some bs =>
          rw [w] at e; cases e
          exact ⟨_, bs, rfl, .inl (.inl (by rw [← bls_rep l w]; exact s _ _ h)), q _ _ _ (Al.refl s) (.bl _)⟩
      | _ => cases e
def gTuple : List D → Option D | [.lst xs] => some (.tup xs) | [.rol xs] => some (.tup xs) | [.tup xs] => some (.tup xs) | _ => none
theorem c_tuple : HasCall X (.type "tuple") gTuple := by
  refine ⟨_, call_tuple_of, fun G H ds d xs Q s rs e q => ?_⟩
  cases rs with
  | nil => cases e
  | cons a b =>
    cases b with
    | cons _ _ => cases a <;> cases e
    | nil =>
      cases a with
      | lst h l => cases e; exact ⟨_, _, rfl, .inl ⟨.inl (.inl (s _ _ h)), fun p hp => q _ _ _ (Al.new s hp) (.tup (.inl (.inl upd_same)) (l.sub (Al.new s hp).sub))⟩⟩
      | rol h l => cases e; exact ⟨_, _, rfl, .inl ⟨sqL_rsub s.r h, fun p hp => q _ _ _ (Al.new s hp) (.tup (.inl (.inl upd_same)) (l.sub (Al.new s hp).sub))⟩⟩
      | tup h l => cases e; exact ⟨_, _, rfl, .inr ⟨sqT_rsub s.r h, q _ _ _ (Al.refl s) (.tup h l)⟩⟩
      | _ => cases e
def gAbs : List D → Option D | [.int i] => some (.int (if i < 0 then -i else i)) | _ => none
theorem c_abs : HasCall X (.builtin "abs") gAbs := by
  refine ⟨_, call_abs, fun G H ds d xs Q s rs e q => ?_⟩
  cases rs with
  | nil => cases e
  | cons a b =>
    cases b with
    | cons _ _ => cases a <;> cases e
    | nil =>
      cases a with
      | int i => cases e; exact ⟨i, rfl, q _ _ _ (Al.refl s) (.int _)⟩
      | _ => cases e
def gInt : List D → Option D | [.int i] => some (.int i) | [.bl b] => some (.int (if b then 1 else 0)) | _ => none
theorem c_int : HasCall X (.type "int") gInt := by
  refine ⟨_, call_int1, fun G H ds d xs Q s rs e q => ?_⟩
  cases rs with
  | nil => cases e
  | cons a b =>
    cases b with
    | cons _ _ => cases a <;> cases e
    | nil =>
      cases a with
      | int i => cases e; exact .inl ⟨i, rfl, q _ _ _ (Al.refl s) (.int _)⟩
      | bl i => cases e; exact .inr ⟨i, rfl, q _ _ _ (Al.refl s) (.int _)⟩
      | _ => cases e
def gMin2 : List D → Option D | [.int i, .int j] => some (.int (if j < i then j else i)) | _ => none
def gMax2 : List D → Option D | [.int i, .int j] => some (.int (if j > i then j else i)) | _ => none
theorem c_min2 (hc : X.calm = true) : HasCall X (.builtin "min") gMin2 := by
  refine ⟨_, call_min2 hc, fun G H ds d xs Q s rs e q => ?_⟩
  cases rs with
  | nil => cases e
  | cons a b =>
    cases b with
    | nil => cases a <;> cases e
    | cons b c =>
      cases c with
      | cons _ _ => cases a <;> cases b <;> cases e
      | nil =>
        cases a with
        | int i =>
          cases b with
          | int j => cases e; exact ⟨i, j, rfl, q _ _ _ (Al.refl s) (.int _)⟩
          | _ => cases e
        | _ => cases e
theorem c_max2 (hc : X.calm = true) : HasCall X (.builtin "max") gMax2 := by
  refine ⟨_, call_max2 hc, fun G H ds d xs Q s rs e q => ?_⟩
  cases rs with
  | nil => cases e
  | cons a b =>
    cases b with
    | nil => cases a <;> cases e
    | cons b c =>
      cases c with
      | cons _ _ => cases a <;> cases b <;> cases e
      | nil =>
        cases a with
        | int i =>
          cases b with
          | int j => cases e; exact ⟨i, j, rfl, q _ _ _ (Al.refl s) (.int _)⟩
          | _ => cases e
        | _ => cases e
/-- list(e), own -/
def mListX (ma : M (List D)) : M Sl := mBind ma fun ds => mOpt (match ds with | [.lst xs] => some (.lst false xs) | [.rol xs] => some (.lst false xs) | [.tup xs] => some (.lst false xs) | _ => none)
end
end FW

set_option Elab.async false
set_option linter.all false
set_option maxRecDepth 100000
set_option maxHeartbeats 400000
/-! FW10: own errors: super().__init__(text), then a field. -/
namespace FW
open PySem PySem.W PySem.Calls PySem.HandSPX

def erA (a : Str) (p1 p2 : Pos) : Arguments := { posonlyargs := [], args := [{ arg := "self", annotation := none, pos := p1 }, { arg := a, annotation := none, pos := p2 }], vararg := none, kwonlyargs := [], kw_defaults := [], kwarg := none, defaults := [] }
def erB (a f msg : Str) (j : Nat) (q1 q2 q3 q4 q5 q6 r1 r2 r3 r4 : Pos) : List Stmt :=
  [.Expr (.Call (.Attribute (.Call (.Name "super" q1) [] [] q2) "__init__" q3) [.Constant (.str msg) j q4] [] q5) q6, .Assign [.Attribute (.Name "self" r1) f r2] (.Name a r3) r4]
section
variable {prog : Program} {w : World} {A : Around} {E : Value → Shared → Prop} {K : Frag} {body : List Stmt} {name qual : Str} {scope : Scope} {L f cc cda C x : Addr} {env : PySem.Env}
variable {h : Heap} {g : Array GenState} {d : Drawn} {t : Nat} {os : OsState}
/-- ValueError.__init__ bound to the exception at x, called with a text: x's args are laid anew, nothing else -/
theorem mw_init {u x C t0 N : Addr} {nm q : Str} {bs bm : List Value} {sn : List Str} {sub : List Value} {ab : Bool} {col : Option Bool} {dd : Option Addr} {k0 k1 k2 k3 k5 : Option Value} {msg : Str} {tk : Tok} {Q : Value → Shared → Prop} (hu : h.get? u = some (kxs_mw "ValueError.__init__" x))
    (hC : h.get? C = some (excClassObj nm q C N bs bm true sn sub ab col dd k0 k1 k2 k3 k5 "ValueError.__new__")) (hx : h.get? x = some (excO C t0))
    (done : ∀ h' t1 tk', (∀ b o, b ≠ x → h.get? b = some o → h'.get? b = some o) → h'.get? x = some (excO C t1) → Q .none ⟨h', g, d, tk', os⟩) : wpAny (model prog w) A (call (.ref u) [.str msg tk]) Q E ⟨h, g, d, t, os⟩ := by
  have base := PySem.F.excBase_ValueError
  refine wpAny_call (codeAny_of_tree ?_)
  show wpAny _ _ (callAny (.ref u) _) _ _ _
  unfold callAny
  repeat (any_goals (first | with_reducible refine wpAny_load hu ?_ | with_reducible refine wpAny_loadPart_at hu ?_ | wp_step))
  exact ⟨plainId_quiet base.init.plain _, codeAny_builtin base.initEntry (exc_init_tree (cls := .ref C) (dv := none) (c2 := .none) (c3 := .none) (b4 := .bool false) hx (by simp [sizeLine_eq]) fun h' k' e' _ => done h' _ _ k' e')⟩
/-- the first row: super().__init__(text) -/
theorem super_row {pl : Sem Bool} {msg : Str} {j : Nat} {q1 q2 q3 q4 q5 q6 : Pos} {fd : FuncData} {oc ccl cl : Value} {od cdd cld : Option Addr} {osl ccs csl : Array (Option Value)} {vs : Array Value} {file : Str} {tf : Tok} {m : Str → Option Value} {ar : Arg}
    {nm q : Str} {N : Addr} {bs bm : List Value} {sn : List Str} {sub : List Value} {ab : Bool} {col : Option Bool} {dd : Option Addr} {k0 k1 k2 k3 k5 : Option Value} {t0 : Addr} {Q : Flow → Shared → Prop}
    (X : K.In h) (hns : h.Ns L m) (hv : m ar.arg = some (.ref x)) (hb : ∃ mb, h.Ns builtinsNs mb ∧ mb "super" = some (.type "super")) (hg : ∃ mg, h.Ns mainGlobals mg ∧ mg "super" = none)
    (hf : K.lookup f = some ⟨oc, od, .func fd, osl⟩) (hp : (fd.params.posonlyargs ++ fd.params.args).head? = some ar)
    (hcode : K.lookup cda = some ⟨ccl, cdd, .fields vs, ccs⟩) (hvs : vs[2]? = some (.str file tf)) (hfile : ((prog.main.file : Str) == file) = true)
    (hcell : K.lookup cc = some ⟨cl, cld, .cell (some (.ref C)), csl⟩) (hC : K.lookup C = some (excClassObj nm q C N bs bm true sn sub ab col dd k0 k1 k2 k3 k5 "ValueError.__new__")) (hbm : refsVE bm = true) (hal : alongIn K "__init__" bm = some (some (.builtin "ValueError.__init__")))
    (hsub : mroIn K C (.ref C) = some true) (hopq : nsIn K cStatics "thirdparty.any" = some none) (hx : h.get? x = some (excO C t0))
    (hks : scope.names.lookup ("super" : Str) = some .globalImplicit) (hkc : scope.names.lookup ("__class__" : Str) = some .free) (hka : scope.names.lookup ar.arg = some .local) (hk : scope.kind = .function)
    (htop : (prog.main.scope.names.lookup ("super" : Str)).isSome = false)
    (he : eval (.Call (.Attribute (.Call (.Name "super" q1) [] [] q2) "__init__" q3) [.Constant (.str msg) j q4] [] q5) (ksEnv qual scope L f (.ref cda) cc) = (do
      let ov ← attributeBase (.Call (.Name "super" q1) [] [] q2) "__init__" (ksEnv qual scope L f (.ref cda) cc) (eval (.Call (.Name "super" q1) [] [] q2) (ksEnv qual scope L f (.ref cda) cc))
      standAt q3.atName
      let (f', first) ← holding [ov] (getMethod ov "__init__" pl)
      callWith q5 f' first (backTo q5 (starEach [.Constant (.str msg) j q4] (ksEnv qual scope L f (.ref cda) cc))) []))
    (hsw : swapsWith (.Call (.Attribute (.Call (.Name "super" q1) [] [] q2) "__init__" q3) [.Constant (.str msg) j q4] [] q5) none q6.line (ksEnv qual scope L f (.ref cda) cc) = pure false)
    (hq : ∀ h' t1 tk, (∀ b o, b ≠ x → h.get? b = some o → h'.get? b = some o) → h'.get? x = some (excO C t1) → Q .next ⟨h', g, d, tk, os⟩) :
    wpAt (model prog w) A (.func body (ksEnv qual scope L f (.ref cda) cc)) (exec (.Expr (.Call (.Attribute (.Call (.Name "super" q1) [] [] q2) "__init__" q3) [.Constant (.str msg) j q4] [] q5) q6) (ksEnv qual scope L f (.ref cda) cc)) Q E ⟨h, g, d, t, os⟩ := by
  have hcl : clsIn K C = some { name := nm, bases := bs, mro := .ref C :: bm, ns := N, qualname := q, hasDict := true, slotNames := sn, subclasses := sub, abstract := ab, collection := col, hasDel := false } := by unfold clsIn; rw [hC] <;> rfl
  have hD1 := X _ _ hC
  refine ks_wpAt_Expr_any (ks_wpAt_MethodCall ?_ he) (by unfold interactive; rw [show (ksEnv qual scope L f (.ref cda) cc).scope.kind = .function from hk]; rfl) hsw
  refine ks_wpAt_super_base (env := ksEnv qual scope L f (.ref cda) cc) hks hkc (by decide) rfl (X _ _ hf) rfl hp rfl (X _ _ hcode) rfl hvs hfile htop ?_
  obtain ⟨mb', hb1, hb2⟩ := hb
  obtain ⟨mg', hg1, hg2⟩ := hg
  refine ks_loadName_global hk hks (loadGlobal_builtin (env := ksEnv qual scope L f (.ref cda) cc) hg1 hg2 hb1 hb2 ⟨rfl, ?_⟩)
  have inCell := X _ _ hcell
  refine wpAny_loadName_free hk hkc rfl ⟨_, inCell, rfl⟩ ?_
  refine wpAny_loadName_local hk hka hns hv ?_
  refine ks_wpAny_isType_cls hD1 rfl ⟨rfl, ?_⟩
  refine ks_wpAny_call_super hD1 rfl hx rfl (fun c e => nomatch e) (looks_mroIn X hsub) (fun h1 e1 k1 => ?_)
  have X1 := X.keeps k1
  have hx1 := k1 _ _ hx
  have xC : x ≠ C := fun z => by rw [z, hD1] at hx; cases hx
  have hmro : Looks (model prog w) h1 (mroOf (.ref C)) (.ref C :: bm) := (looks_clsIn X1 hcl).andThen .now
  have hsz : h.objs.size < h1.objs.size := Heap.lt_size e1
  refine kxs_getMethod kxs_ValueError e1 (looks_opaque X1 hopq) hmro (l := bm) ?_ X1 hal ?_ xC (by decide) ?_
  · simp [List.dropWhile_cons]
  · have I1 : InstAt h1 x (excO C t0) C none := ⟨hx1, rfl, rfl, trivial⟩
    refine I1.type.andThen (looks_mroIn X1 ?_)
    unfold mroIn
    rw [hcl]
    have hc : (Value.ref C :: bm).contains (.type "ValueError") = true := by
      rw [List.contains_cons, refsVE_contains "ValueError" bm hbm, Bool.or_eq_true]
      exact .inr (by decide)
    simp only [Option.bind_some, List.isEmpty_cons, Bool.false_eq_true, if_false, hc]
  have hx2 := Heap.get?_push_of_some (kxs_mw "ValueError.__init__" x) hx1
  have hu : (h1.push (kxs_mw "ValueError.__init__" x)).get? h1.objs.size = some (kxs_mw "ValueError.__init__" x) := Heap.get?_push_size _ rfl
  refine kxs_callWith (i := "ValueError.__init__") (x := x) rfl (evalArgs_plain (Calls.spliced_cons (wpAny_Constant_str (pos := q4) (k := j) (Calls.spliced_nil ⟨hu, ?_⟩))))
  exact mw_init hu (Heap.get?_push_of_some _ (X1 _ _ hC)) hx2 fun h3 t1 tk k3 e3 => hq h3 t1 tk (fun b o nb z => k3 b o nb (Heap.get?_push_of_some _ (k1 b o z))) e3
end
/-- what the written part says of an error class named n with the field f, and of its __init__ with the parameter a -/
structure ErrTxt (prog : Program) (K : Frag) (mg : Str → Option Value) (n a f msg : Str) (j : Nat) (sc : Scope) (C fI : Addr) : Prop where
  gC : mg n = some (.ref C)
  cls : ∃ nm q N bs bm sn sub ab col dd k0 k1 k2 k3 k5, K.lookup C = some (excClassObj nm q C N bs bm true sn sub ab col dd k0 k1 k2 k3 k5 "ValueError.__new__") ∧ refsVE bm = true ∧ alongIn K "__init__" bm = some (some (.builtin "ValueError.__init__"))
  sa : findIn K (.ref C) "__setattr__" = some (some (.builtin "object.__setattr__"))
  ga : findIn K (.ref C) "__getattribute__" = some (some (.builtin "BaseException.__getattribute__"))
  gg : findIn K (.ref C) "__getattr__" = some none
  noN : findIn K (.ref C) f = some none
  iC : findIn K (.ref C) "__init__" = some (some (.ref fI))
  tC : typeIn K (.ref fI) = some (.type "function")
  kC : keepIn K (.ref C) = true
  exC : subIn K (.ref C) (.type "BaseException") = some true
  tyC : typeIn K (.ref C) = some (.type "type")
  hdC : hasDictIn K C = true
  sub : mroIn K C (.ref C) = some true
  opq : nsIn K cStatics "thirdparty.any" = some none
  sup : mg "super" = none
  top : (prog.main.scope.names.lookup ("super" : Str)).isSome = false
  scs : sc.names.lookup ("super" : Str) = some .globalImplicit
  scc : sc.names.lookup ("__class__" : Str) = some .free
  scS : sc.names.lookup ("self" : Str) = some .local
  scA : sc.names.lookup a = some .local
  sck : sc.kind = .function
  sco : sc.isCoroutine = false
  scg : sc.isGenerator = false
  scn : ∀ x ∈ sc.names, x.2 ≠ .cell
  ne : a ≠ "self"
  fn : ∃ (oc : Value) (od : Option Addr) (doc pm : Value) (an : Option Addr) (cda cc : Addr) (ct : Value) (osl : Array (Option Value)) (qual : Str) (p1 p2 q1 q2 q3 q4 q5 q6 r1 r2 r3 r4 : Pos) (ccl cl : Value) (cdd cld : Option Addr) (ccs csl : Array (Option Value)) (vs : Array Value) (file : Str) (tf : Tok),
    K.lookup fI = some ⟨oc, od, .func (ksFn "__init__" qual (erA a p1 p2) (erB a f msg j q1 q2 q3 q4 q5 q6 r1 r2 r3 r4) sc .none .none doc pm an (.ref cda) ct cc), osl⟩ ∧ codeIn K (.ref cda) qual = true ∧
    K.lookup cda = some ⟨ccl, cdd, .fields vs, ccs⟩ ∧ vs[2]? = some (.str file tf) ∧ ((prog.main.file : Str) == file) = true ∧ K.lookup cc = some ⟨cl, cld, .cell (some (.ref C)), csl⟩ ∧
    (∀ L : Addr, ∃ pl : Sem Bool, eval (.Call (.Attribute (.Call (.Name "super" q1) [] [] q2) "__init__" q3) [.Constant (.str msg) j q4] [] q5) (ksEnv qual sc L fI (.ref cda) cc) = (do
      let ov ← attributeBase (.Call (.Name "super" q1) [] [] q2) "__init__" (ksEnv qual sc L fI (.ref cda) cc) (eval (.Call (.Name "super" q1) [] [] q2) (ksEnv qual sc L fI (.ref cda) cc))
      standAt q3.atName
      let (f', first) ← holding [ov] (getMethod ov "__init__" pl)
      callWith q5 f' first (backTo q5 (starEach [.Constant (.str msg) j q4] (ksEnv qual sc L fI (.ref cda) cc))) [])) ∧
    (∀ L : Addr, swapsWith (.Call (.Attribute (.Call (.Name "super" q1) [] [] q2) "__init__" q3) [.Constant (.str msg) j q4] [] q5) none q6.line (ksEnv qual sc L fI (.ref cda) cc) = pure false) ∧
    (∀ L : Addr, swapsWith (.Name a r3) (some (.Attribute (.Name "self" r1) f r2)) r4.line (ksEnv qual sc L fI (.ref cda) cc) = pure false) ∧ (a == ("__debug__" : Str)) = false ∧
    (∀ x v : Value, bindArgs (ksFn "__init__" qual (erA a p1 p2) (erB a f msg j q1 q2 q3 q4 q5 q6 r1 r2 r3 r4) sc .none .none doc pm an (.ref cda) ct cc) ⟨[x, v], []⟩ = pure [(("self" : Str), x), (a, v)])
/-- what __init__ leaves of a fresh exception at x -/
structure ErrEnd (h h' : Heap) (x C dx : Addr) (f : Str) (v : Value) : Prop where
  keep : ∀ b o, b ≠ x → h.get? b = some o → h'.get? b = some o
  obj : ∃ t1, h'.get? x = some { cls := .ref C, dict := some dx, data := .fields #[.ref t1, .none, .none, .none, .bool false, .none] }
  dbig : h.objs.size ≤ dx
  dne : dx ≠ x
  ns : h'.Ns1 dx (fun y => if y = f then some v else none)
section
variable {prog : Program} {w : World} {A : Around} {R : Result → Shared → Prop} {s : Shared} {K : Frag} {mg : Str → Option Value} {n a f msg : Str} {j : Nat} {sc : Scope} {C fI : Addr}
theorem err_init (T : ErrTxt prog K mg n a f msg j sc C fI) {x t0 : Addr} {v : Value} (X : K.In s.heap) (hlim : s.heap.NoLimit) (hb : ∃ mb, s.heap.Ns builtinsNs mb ∧ mb "super" = some (.type "super")) (hg : s.heap.Ns mainGlobals mg) (hx : s.heap.get? x = some (excO C t0)) (hnx : K.lookup x = none) (hroom : A.depth < recursionLimit)
    (hq : ∀ h' tk dx, ErrEnd s.heap h' x C dx f v → R (.ok (.ret .none)) { s with heap := h', toks := tk }) :
    codeAny (model prog w) A (.call (.ref fI) ⟨[.ref x, v], []⟩) R s := by
  obtain ⟨oc, od, doc, pm, an, cda, cc, ct, osl, qual, p1, p2, q1, q2, q3, q4, q5, q6, r1, r2, r3, r4, ccl, cl, cdd, cld, ccs, csl, vs, file, tf, ho, hcd, hcode, hvs, hfile, hcell, he, hsw, hsw2, hda, hbi⟩ := T.fn
  obtain ⟨nm, q, N, bs, bm, sn, sub, ab, col, dd, k0, k1, k2, k3, k5, hC, hbm, hal⟩ := T.cls
  have hcl : clsIn K C = some { name := nm, bases := bs, mro := .ref C :: bm, ns := N, qualname := q, hasDict := true, slotNames := sn, subclasses := sub, abstract := ab, collection := col, hasDel := false } := by unfold clsIn; rw [hC] <;> rfl
  refine ks_codeAny_call_defAt (fd := ksFn "__init__" qual (erA a p1 p2) (erB a f msg j q1 q2 q3 q4 q5 q6 r1 r2 r3 r4) sc .none .none doc pm an (.ref cda) ct cc) (body := erB a f msg j q1 q2 q3 q4 q5 q6 r1 r2 r3 r4) (binds := [("self", .ref x), (a, v)]) hroom (X _ _ ho) rfl hlim (codeRec_of X hcd) rfl (BindsTo.of_eq (hbi _ _)) T.scn (fun y hy => ?_) (fun h₁ hns k => ?_) T.sco T.scg T.sck
  · simp only [List.mem_cons, List.not_mem_nil, or_false] at hy
    rcases hy with rfl | rfl
    · exact T.scS
    · exact T.scA
  have X₁ : K.In h₁ := X.keeps k
  have hx₁ := k _ _ hx
  obtain ⟨he1, he2⟩ := he s.heap.objs.size
  have m1 : (fun y => ([("self", Value.ref x), (a, v)] : List (Str × Value)).reverse.lookup y) "self" = some (.ref x) := by
    simp [List.lookup, show (("self" : Str) == a) = false by simpa using T.ne.symm]
  have m2 : (fun y => ([("self", Value.ref x), (a, v)] : List (Str × Value)).reverse.lookup y) a = some v := by simp [List.lookup]
  refine ks_wpAt_execs_cons (super_row (ar := { arg := "self", annotation := none, pos := p1 }) (m := fun y => ([("self", Value.ref x), (a, v)] : List (Str × Value)).reverse.lookup y) X₁ hns m1 ?_ ?_ ho rfl hcode hvs hfile hcell hC hbm hal T.sub T.opq hx₁ T.scs T.scc T.scS T.sck T.top he2 (hsw _) fun h2 t1 tk k2 hx2 => ?_)
  · obtain ⟨mb, hb1, hb2⟩ := hb
    exact ⟨mb, hb1.keeps k, hb2⟩
  · exact ⟨mg, hg.keeps k, T.sup⟩
  have X2 : K.In h2 := fun b o e => k2 b o (fun z => by rw [z, hnx] at e; cases e) (X₁ b o e)
  have hn2 : h2.Ns s.heap.objs.size (fun y => ([("self", Value.ref x), (a, v)] : List (Str × Value)).reverse.lookup y) := by
    obtain ⟨oL, es, ep, hL, r⟩ := hns
    exact ⟨oL, es, ep, k2 _ _ (Nat.ne_of_gt (Heap.lt_size hx)) hL, r⟩
  refine ks_wpAt_execs_cons (wpAt_of_wpAny (plainObj_wpAny_Assign_Attribute ?_ (hsw2 _)))
  refine wpAny_Name (wpAny_loadName_local T.sck T.scA hn2 m2 ?_) hda
  refine wpAny_Name (wpAny_loadName_local T.sck T.scS hn2 m1 ?_) (by decide)
  refine set_plain X2 (ox := excO C t1) (od := none) ⟨hx2, rfl, rfl, trivial⟩ T.sa ?_
  refine exc_osa X2 hx2 hcl (show refsVE (.ref C :: bm) = true from hbm) rfl T.noN (fun h₃ tk₃ dx k₃ dn dne hx₃ hn₃ => ?_)
  refine wpAt_of_wpAny (wpAny_execs_nil ?_)
  have z : s.heap.objs.size < h2.objs.size := hn2.lt
  refine hq h₃ tk₃ dx ⟨fun b o hb e => k₃ b o hb (k2 b o hb (k b o e)), ⟨t1, hx₃⟩, Nat.le_trans (Nat.le_of_lt z) dn, dne, hn₃⟩
end
end FW

set_option Elab.async false
set_option linter.all false
set_option maxRecDepth 100000
set_option maxHeartbeats 400000
/-! FW11: own errors made and raised, over the layer and by values. -/
namespace FW
section
open PySem PySem.W PySem.Calls PySem.HandSPX
structure ErrMade (h h' : Heap) (e C d : Addr) (f : Str) (v : Value) : Prop where
  keep : ∀ b o, h.get? b = some o → h'.get? b = some o
  new : h.objs.size ≤ e
  obj : ∃ oe vs, h'.get? e = some oe ∧ oe.cls = .ref C ∧ oe.dict = some d ∧ oe.data = .fields vs ∧ vs[1]? = some .none ∧ vs[2]? = some .none ∧ 4 < vs.size
  dbig : h.objs.size ≤ d
  dne : d ≠ e
  ns : h'.Ns1 d (fun y => if y = f then some v else none)
variable {prog : Program} {w : World} {A : Around} {R : Result → Shared → Prop} {s : Shared} {K : Frag} {mg : Str → Option Value} {n a f msg : Str} {j : Nat} {sc : Scope} {C fI : Addr}
theorem err_made (T : ErrTxt prog K mg n a f msg j sc C fI) {v : Value} (X : K.In s.heap) (hlim : s.heap.NoLimit) (hb : ∃ mb, s.heap.Ns builtinsNs mb ∧ mb "super" = some (.type "super")) (hg : s.heap.Ns mainGlobals mg) (hroom : A.depth + 1 < recursionLimit)
    (hq : ∀ h' tk e d, ErrMade s.heap h' e C d f v → R (.ok (.ret (.ref e))) { s with heap := h', toks := tk }) :
    codeAny (model prog w) A (.call (.ref C) ⟨[v], []⟩) R s := by
  obtain ⟨nm, q, N, bs, bm, sn, sub, ab, col, dd, k0, k1, k2, k3, k5, hC, hbm, _⟩ := T.cls
  obtain ⟨hp, g, dr, tk, os⟩ := s
  have k : ∀ b o, hp.get? b = some o → ((hp.push (kdv_tup [v])).push (excO C hp.objs.size)).get? b = some o := fun b o e => Heap.get?_push_of_some _ (Heap.get?_push_of_some _ e)
  have hget : ((hp.push (kdv_tup [v])).push (excO C hp.objs.size)).get? (hp.objs.size + 1) = some (excO C hp.objs.size) := by heap_get
  have hnx : K.lookup (hp.objs.size + 1) = none := by
    cases e : K.lookup (hp.objs.size + 1) with
    | none => rfl
    | some o => exact absurd (Nat.lt_of_succ_lt (Heap.lt_size (X _ _ e))) (Nat.lt_irrefl _)
  refine call_own PySem.F.excBase_ValueError (fun Y => refsVE_contains Y bm hbm) (X _ _ hC) (looks_findIn X T.iC) (fun self => bind_fn X self T.tC) (by simp [sizeLine_eq]) ?_
  obtain ⟨mb, hb1, hb2⟩ := hb
  refine err_init (s := ⟨(hp.push (kdv_tup [v])).push (excO C hp.objs.size), g, dr, tk, os⟩) T (X.keeps k) (hlim.keeps k) ⟨mb, hb1.keeps k, hb2⟩ (hg.keeps k) hget hnx ?_ fun h' tk' dx ⟨k', ⟨t1, hx⟩, dn, dne, hns⟩ => ?_
  · show A.depth + 1 < recursionLimit
    exact hroom
  · have old : ∀ b o, hp.get? b = some o → h'.get? b = some o := fun b o e => k' b o (Nat.ne_of_lt (Nat.lt_succ_of_lt (Heap.lt_size e))) (k b o e)
    have z : hp.objs.size + 1 + 1 ≤ dx := by
      first
        | (simpa only [Heap.size_push] using dn)
        | exact dn
        | (have q := dn; rw [Heap.size_push, Heap.size_push] at q; exact q)
    exact ⟨rfl, hq h' tk' (hp.objs.size + 1) dx ⟨old, Nat.le_succ _, ⟨_, _, hx, rfl, rfl, rfl, rfl, rfl, by simp⟩, Nat.le_trans (Nat.le_trans (Nat.le_succ _) (Nat.le_succ _)) z, dne, hns⟩⟩
end
section
open PySem PySem.Spec L2
theorem relO_one {v : V} {v' : Value} {f : Str} (r : RelV v v') (g : Str) : RelO (List.lookup g [(f, v)]) (if g = f then some v' else none) := by
  by_cases hw : g = f
  · subst hw
    rw [if_pos rfl]
    have q : List.lookup g [(g, v)] = some v := by simp [List.lookup]
    rw [q]; exact r
  · rw [if_neg hw]
    have qw : (g == f) = false := by simpa using hw
    have q2 : List.lookup g [(f, v)] = none := by simp [List.lookup, qw]
    rw [q2]; trivial
variable {X : Cx} {W : WX} {n pa f msg : Str} {j k : Nat} {sc : Scope} {C fI : Addr}
def tMkErr (C : Addr) (f : Str) (ta : TA) : L2.St → Hp → XK → Prop := fun σ H Q => ta σ H fun vs H1 => ∃ v, vs = [v] ∧ ∀ d, H1 d = none → Q (.ref C) (some d) (upd H1 d (.xd [(f, v)]))
theorem mod_blt {K : PySem.W.Frag} {mg : Str → Option Value} {base h : Heap} (M : Mod K mg base) (k : ∀ b o, base.get? b = some o → h.get? b = some o) : ∃ mb, h.Ns builtinsNs mb ∧ mb "super" = some (.type "super") := by
  obtain ⟨mb, h1, h2⟩ := M.blt
  exact ⟨mb, h1.keeps k, (h2 "super" (by decide)).trans (by decide +kernel)⟩
theorem pmk_err {a : Expr} {ta : TA} {p pos : Pos} (T : ErrTxt X.prog X.K X.mg n pa f msg j sc C fI) (hr : Room k X.A) (ha : PA X [a] ta) (hg : Gl X n := by rfl) (hdb : (n == ("__debug__" : Str)) = false := by decide)
    (he : starEach (a :: []) X.env = (false, eval a X.env) :: starEach [] X.env := by rfl) (hpl : (backTo pos (starEach [] X.env)).any (·.1) = false := by rfl) :
    PMk X (.Call (.Name n p) [a] [] pos) (tMkErr C f ta) := by
  intro pins s σ H Q I h
  refine wpAny_Call_Name_kw (ld_glob I hg T.gC ?_ hdb)
  refine PySem.W.callWith_K (h₀ := X.base) I.ok.mod.kin T.kC (thn (ha.run pos pins s σ H _ I h) fun us s1 hh => ?_) he hpl
  obtain ⟨vs, H1, I1, r1, v, ev, q1⟩ := hh
  subst ev
  refine ⟨I1.kIn, ?_⟩
  cases r1 with
  | @cons _ v' _ us' rv rn =>
    cases rn
    show wpAny _ _ (call (.ref C) [v']) _ _ _
    have hlim := I1.nolimit
    have hbl := mod_blt I1.mod I1.bk
    have hgl := I1.mod.glob.keeps I1.bk
    obtain ⟨hp, g, dr, tk, os⟩ := s1
    refine wpAny_call (err_made T I1.kIn hlim hbl hgl (by have := hr.dp; omega) fun h' tk' e d M => ?_)
    show MkP X pins σ Q (.ref e) ⟨h', g, dr, tk', os⟩
    obtain ⟨oe, fv, hoe, hc, hd, hdat, h1, _⟩ := M.obj
    have hns := M.ns
    obtain ⟨G', g1, g2⟩ := restrict h' fun b => decide (b ≠ e)
    have gk : ∀ b, b ≠ e → G'.get? b = h'.get? b := fun b hb => g1 b (decide_eq_true hb)
    have ge : G'.get? e = none := g2 e (by simp)
    have old : ∀ b o, hp.get? b = some o → G'.get? b = some o := fun b o q => (gk b (Nat.ne_of_lt (Nat.lt_of_lt_of_le (Heap.lt_size q) M.new))).trans (M.keep b o q)
    have ob : ObjOk X.prog X.w (upd H1 d (.xd [(f, v)])) G' d (.xd [(f, v)]) := ⟨_, hns.at (fun o q => (gk d M.dne).trans q), fun g => relO_one rv g⟩
    have J : Inv X pins σ (upd H1 d (.xd [(f, v)])) ⟨G', g, dr, tk', os⟩ := I1.laid (t' := tk') old M.dbig ob
    refine ⟨e, oe, fv, ⟨G', g, dr, tk', os⟩, _, .ref C, some d, rfl, J, fun b o q => ?_, ge, hoe, ⟨hc, hd⟩, hdat, h1, ?_, rfl, I1.bare, raises_own T.exC T.tyC, q1 d (I1.hok.fresh M.dbig)⟩
    · by_cases hb : b = e
      · have q' : G'.get? b = some o := q
        rw [hb, ge] at q'; cases q'
      · exact (gk b hb).symm.trans q
    · rw [upd_ne (Ne.symm M.dne)]
      exact I1.hok.fresh M.new
/-! ### by values -/
variable [Tc]
def rdMk (K : PySem.W.Frag) (mg : Str → Option Value) (W : WX) (m : M (Str × List (Str × D))) : L2.St → Hp → XK → Prop := fun σ H Q => ∃ G ρ S, StOk K mg G H σ ρ S ∧ PostO K mg W G H S σ ρ (m ρ) fun nf _ G' H' _ => ∀ c dd, ErrIs K mg G' nf.1 nf.2 c dd → Q c dd H'
abbrev DMk (X : Cx) (W : WX) (e : Expr) (m : M (Str × List (Str × D))) : Prop := PMk X e (rdMk X.K X.mg W m)
def mErr1 (n f : Str) (m : M D) : M (Str × List (Str × D)) := mBind m fun d => mPure (n, [(f, d)])
theorem dm_err {a : Expr} {m : M D} {p pos : Pos} (T : ErrTxt X.prog X.K X.mg n pa f msg j sc C fI) (hr : Room k X.A) (ha : DE X W a m) (hg : Gl X n := by rfl) (hdb : (n == ("__debug__" : Str)) = false := by decide)
    (he : starEach (a :: []) X.env = (false, eval a X.env) :: starEach [] X.env := by rfl) (hpl : (backTo pos (starEach [] X.env)).any (·.1) = false := by rfl) : DMk X W (.Call (.Name n p) [a] [] pos) (mErr1 n f m) := by
  intro pins s σ H Q I h
  refine pmk_err T hr (pa_cons ha pa_nil he) hg hdb he hpl pins s σ H Q I ?_
  obtain ⟨G, ρ, S, st, p⟩ := h
  refine ⟨G, ρ, S, st, (PostO.bind p).imp fun d ρ1 G1 H1 S1 _ ⟨t1, p1⟩ v r => ?_⟩
  refine ⟨v, rfl, fun dx hdx => ?_⟩
  have al := Al.new (o := .xd [(f, v)]) t1.st.sub hdx
  exact p1 _ _ _ (al.stp t1.st) _ _ ⟨C, T.gC, rfl, .inr ⟨dx, _, rfl, upd_same, rfl, .cons (r.sub al.sub) .nil⟩⟩
def sRaise (m : M (Str × List (Str × D))) : MS := fun ρ => (m ρ).fl fun nf ρ' => .err nf.1 nf.2 ρ'
theorem ds_raise {e : Expr} {m : M (Str × List (Str × D))} {pos : Pos} (hc : X.calm = true) (tk : Takes X W) (h : DMk X W e m) : DS X W (.Raise (some e) none pos) (sRaise m) := by
  refine PSimp (ps_raise hc tk h) ?_
  rintro E σ H ⟨G, ρ, S, st, p⟩
  exact ⟨G, ρ, S, st, (PostO.fl p).imp fun nf ρ1 G1 H1 S1 _ ⟨t1, p1⟩ c dd er => p1 _ _ _ _ c dd (Stp.refl t1.st) er⟩
end
end FW

set_option Elab.async false
set_option linter.all false
set_option maxRecDepth 100000
set_option maxHeartbeats 400000
/-! FW12: an error that is caught and kept as a value. -/
namespace FW
open PySem PySem.Spec L2

/-- what stands there already, laid since the entry, is tracked from now on -/
theorem track {X : Cx} {pins : List (Addr × Obj)} {σ : St} {H : Hp} {s : Shared} {a : Addr} {u : HO} (I : Inv X pins σ H s) (hn : H a = none) (h0 : X.s_0.heap.get? a = none) (nL : a ≠ X.env.locals) (nC : ∀ x c, X.env.cells.lookup x = some c → c ≠ a)
    (nP : ∀ p ∈ X.pn ++ pins, p.1 ≠ a) (new : ObjOk X.prog X.w (upd H a u) s.heap a u) : Inv X pins σ (upd H a u) s := by
  have ne : ∀ {b o}, H b = some o → b ≠ a := fun {b o} e z => by
    rw [z, hn] at e
    cases e
  have up : ∀ {b o}, H b = some o → upd H a u b = some o := fun {b o} e => (upd_ne (ne e)).trans e
  refine { I with base := ?base, free := ?free, freeC := ?freeC, pin := ?pin, hok := ?hok }
  case base =>
    have U := I.base
    refine { keep := U.keep, slot := U.slot, free := fun b o e n hx => ?_, there := U.there, tups := fun b xs e => up (U.tups b xs e), frzs := fun b o w e => up (U.frzs b o w e), tbls := fun b ps e => ?_ }
    · have z : b ≠ a := fun z => by
        rw [z, h0] at e
        cases e
      exact (upd_ne z).trans (U.free b o e n hx)
    · obtain ⟨more, q⟩ := U.tbls b ps e
      exact ⟨more, up q⟩
  case free => exact (upd_ne (Ne.symm nL)).trans I.free
  case freeC => exact fun x c e => (upd_ne (nC x c e)).trans (I.freeC x c e)
  case pin =>
    intro p hp
    obtain ⟨q1, q2, q3⟩ := I.pin p hp
    exact ⟨q1, (upd_ne (nP p hp)).trans q2, q3⟩
  case hok =>
    intro b o e
    by_cases z : b = a
    · subst z
      rw [upd_same] at e
      cases e
      exact new
    · rw [upd_ne z] at e
      exact (I.hok b o e).stay (fun _ _ _ q => q) (fun _ q => up q) fun _ _ q => up q
/-- the class is the clause's: the error is kept in slot j, slot i is the clause's name -/
def wKeep (K : PySem.W.Frag) (c : Value) (i j : Nat) (E : Ends) : WX := fun cls d σ H =>
  PySem.W.exmOne K cls c = some true ∧ ∀ a, H a = none → E.nx (((σ.set i (some (.ref a))).set j (some (.ref a))).set i none) (upd H a (ExV cls d a))
section
variable {X : Cx} {x n y : Str} {c : Value} {i j : Nat} {body : List Stmt} {np ny nn pa pos pos' : Pos} {tb : WX → TS}
theorem ps_try_keep (hs : X.stack = X.env :: X.outer) (hf : X.env.frame = some X.env.locals) (hN : X.N.Nodup) (hi : X.N[i]? = some n) (hj : X.N[j]? = some y) (hij : i ≠ j) (hln : X.env.scope.names.lookup n = some .local) (hly : X.env.scope.names.lookup y = some .local) (hc : Names X x c) (hex : X.ex = [])
    (hb : ∀ (W : WX) (pn : List (Addr × Obj)) (xe : Value → Shared → Prop), Takes (X.tr pn xe) W → PSs (X.tr pn xe) body (tb W)) (hdn : (n == ("__debug__" : Str)) = false := by decide) (hcn : (n == ("__classdict__" : Str)) = false := by decide)
    (hsw : swapsWithSole [.Name y ny] (.Name n nn) pa.line X.env = pure false := by rfl) (hsw2 : swappedStores [.Name y ny] (.Name n nn) X.env = pure none := by rfl) (hsw3 : (assignEach [.Name y ny] X.env).map (·.2) = [assign (.Name y ny) X.env] := by rfl) :
    PS X (.Try body [.ExceptHandler (some (.Name x np)) (some n) [.Assign [.Name y ny] (.Name n nn) pa] pos'] [] [] pos) (fun D σ H => tb (wKeep X.K c i j D) D σ H) := by
  constructor
  intro pins s σ H E I h
  have hfr : X.A.frames = some (X.env :: X.outer) := hs ▸ I.ok.frames
  refine wpAny_Try_except ?_
  have caught : Takes (X.tr (X.pn ++ pins) (fun e t => wpAny (model X.prog X.w) X.A (noteFrame e X.env) (fun _ t1 => wpAny (model X.prog X.w) X.A (setFlight e none)
    (fun _ t2 => wpAny (model X.prog X.w) X.A (handleBy e X.env [.ExceptHandler (some (.Name x np)) (some n) [.Assign [.Name y ny] (.Name n nn) pa] pos']) (SP X pins E) X.xe t2) X.xe t1) X.xe t)) (wKeep X.K c i j E) := by
    rintro _ t ⟨a, B, sI, pins1, σ1, H1, cls, d, rfl, J1, nb, up, sky, na, os, ag, exm, yes⟩
    have J := J1.ofTry I.ok
    rw [show (X.tr (X.pn ++ pins) _).stack = X.env :: X.outer from hs] at sky
    refine Sky.land Zc.steady hfr hf sky fun g3 fly3 up3 => ?_
    have J3 := J.landed (s' := { t with heap := g3 }) nb fly3.1 (up.trans up3) os ag
    obtain ⟨o3, v3, at3, z3, d3⟩ := fly3.there
    have noFrame : a ∉ frs (X.env :: X.outer) := fun hm => by
      obtain ⟨_, o, e, bad⟩ := fly3.2.2.1.mem hm
      exact bad v3 (by rw [at3] at e; cases e; exact d3)
    have nL : a ≠ X.env.locals := fun z => noFrame (by unfold frs; rw [List.filterMap_cons, hf, z]; exact List.mem_cons_self)
    have nF : a ∉ X.fs := fun hm => noFrame (by
      unfold frs
      rw [List.filterMap_cons, hf]
      exact List.mem_cons_of_mem _ hm)
    have stk : ∀ b, b ∉ frs (X.env :: X.outer) → ∀ o, sI.heap.get? b = some o → B.get? b = some o := fun b hb o e => nb b o e (by rw [hs]; exact hb)
    have new : sI.heap.get? a = none := by
      cases e : sI.heap.get? a with
      | none => rfl
      | some o =>
        have := stk a noFrame o e
        rw [fly3.2.1] at this
        cases this
    have inSuite : ∀ {g : Heap} {o : Obj} {vs : Array Value}, Inv X pins σ1 H1 { t with heap := g } → g.get? a = some o → o.data = .fields vs → Inv (X.suite a ((a, o) :: (X.pn ++ pins))) [] σ1 H1 { t with heap := g } := fun K at_ dt => K.suite at_ dt na nL nF
    have S3 := inSuite J3 at3 d3
    have ty : PySem.W.Looks (model X.prog X.w) g3 (typeOf (.ref a)) cls := fun A Q E s k q => wpAny_typeOf_ref (k _ _ at3) (z3.1.symm ▸ q)
    refine wpAny_handleBy_cons (codeAny_handlers_test ?_) fun z => nomatch z
    have lm := PySem.W.exm_one (M := model X.prog X.w) J3.kIn ty exm
    have clause : ∀ {Q : Value → Shared → Prop} {E : Value → Shared → Prop}, Q c { t with heap := g3 } → wpAny (model X.prog X.w) (X.A.mark (some (.ref a))) (eval (.Name x np) X.env) Q E { t with heap := g3 } := by
      intro Q E q
      rcases hc with ⟨w1, w2, w3 | ⟨w3, w4, w5⟩⟩
      · exact ld_glob S3 w1 w3 q w2
      · exact ld_blt S3 w1 w3 w4 q w5 w2
    refine clause (lm.here ?_)
    refine codeAny_handlers_suite_as (HandSPX.lands_againZ fly3 fun g4 fly4 up4 => ?_)
    have J4 := J.landed (s' := { t with heap := g4 }) nb fly4.1 ((up.trans up3).trans up4) os ag
    obtain ⟨o4, v4, at4, z4, d4⟩ := fly4.there
    have S4 := inSuite J4 at4 d4
    refine store_ok (X := X.suite a ((a, o4) :: (X.pn ++ pins))) (v := .ref a) S4 hN hi (.inl hln) rfl (fun s5 S5 => ?_) (.inr hln)
    have row : PSs (X.suite a ((a, o4) :: (X.pn ++ pins))) [.Assign [.Name y ny] (.Name n nn) pa] (tAsg (tVar i) (gName j)) := pss_one (ps_asg (pe_var hi (.inl hln) hdn hcn) (pg_name hN hj (.inl hly) (.inr hly)) hsw hsw2 hsw3)
    have hlt : i < σ1.length := by rw [J.len]; exact (List.getElem?_eq_some_iff.mp hi).1
    refine wpAny_mono (row.run [] s5 _ H1 { nx := fun σ' H' => σ' = (σ1.set i (some (.ref a))).set j (some (.ref a)) ∧ H' = H1, rt := fun _ _ => False } S5 ⟨_, List.getElem?_set_self hlt, rfl, rfl⟩) (fun f s6 hsp => ?_) fun _ _ z => z.elim
    cases f with
    | next =>
      obtain ⟨σ6, H6, S6, rfl, rfl⟩ := hsp
      refine gone_ok (X := X.suite a ((a, o4) :: (X.pn ++ pins))) S6 hN hi hln fun s7 S7 => ?_
      obtain ⟨at7, n7, _, _, _⟩ := S7.pin (a, o4) (by simp)
      have J7 := S7.unsuite I.ok
      refine ⟨_, _, track J7 na ?_ nL (fun q c e z => ?_) (fun p hp z => ?_) ?_, yes a na⟩
      · cases e : X.s_0.heap.get? a with
        | none => rfl
        | some o =>
          obtain ⟨o', e'⟩ := J.base.there a o e (by rw [hex]; simp)
          rw [new] at e'; cases e'
      · obtain ⟨v, o, e1, e2⟩ := J7.cell q c e
        rw [z] at e1
        have e3 : s7.heap.get? a = some o4 := at7
        rw [e3] at e1; cases e1
        rw [d4] at e2; cases e2
      · obtain ⟨e1, _⟩ := J.pin p hp
        rw [z, new] at e1; cases e1
      · exact ⟨⟨o4, v4, at7, z4.1, z4.2, d4⟩, ⟨o4, at7⟩, fun _ _ ⟨o, v, q, r⟩ k => ⟨o, v, k o q, r⟩⟩
    | brk => exact (show False from by obtain ⟨_, _, _, q⟩ := hsp; exact q).elim
    | cont => exact (show False from by obtain ⟨_, _, _, q⟩ := hsp; exact q).elim
    | ret u => exact (show False from by obtain ⟨_, _, _, _, _, q⟩ := hsp; exact q).elim
  · refine wpAny_mono ((hb _ _ _ caught).run [] s σ H E (I.toTry _) h) (fun f s1 hsp => ?_) fun _ _ z => z
    cases f with
    | next =>
      obtain ⟨σ1, H1, J1, q1⟩ := hsp
      exact wpAny_execs_nil ⟨σ1, H1, J1.ofTry I.ok, q1⟩
    | brk => obtain ⟨σ1, H1, J1, q1⟩ := hsp; exact ⟨σ1, H1, J1.ofTry I.ok, q1⟩
    | cont => obtain ⟨σ1, H1, J1, q1⟩ := hsp; exact ⟨σ1, H1, J1.ofTry I.ok, q1⟩
    | ret u => obtain ⟨v, σ1, H1, J1, r1, q1⟩ := hsp; exact ⟨v, σ1, H1, J1.ofTry I.ok, r1, q1⟩
end
end FW

set_option Elab.async false
set_option linter.all false
set_option maxRecDepth 100000
set_option maxHeartbeats 4000000
/-! FW13: caught errors as values: their fields, isinstance of them; f(lambda: e) of a def that catches. -/
namespace FW
section
open PySem PySem.Spec PySem.Calls PySem.W
variable {prog : Program} {w : World} {A : Around} {E : Value → Shared → Prop} {s : Shared} {K : Frag} {x D : Addr} {ox : Obj} {od : Option Obj}
/-- a getter of the class comes ahead of the own dict -/
theorem found_get {C : Addr} {name : Str} {a g : Value} (hc : (clsIn K C).isSome = true) (ha : findIn K (.ref C) name = some (some a)) (hg : specialIn K a "__get__" = some (some g)) (ht : takesIn K a = some true) : findObj K C od name = some (.bind g a) := by
  obtain ⟨cd, e⟩ := Option.isSome_iff_exists.mp hc
  simp only [findObj, e, ha, hg, ht, Option.bind_some]
/-- e.__class__ of an exception, with or without an own dict -/
theorem class_of_exc {Q : Option Value → Shared → Prop} (T : L2.ExcC K D) (X : K.In s.heap) (I : InstAt s.heap x ox D od) (h : Q (some (.ref D)) { s with toks := s.toks + 1 }) :
    wpAny (model prog w) A (getAttr? (.ref x) "__class__") Q E s := by
  have hcd : (clsIn K D).isSome = true := by
    obtain ⟨cd, e, _⟩ := any_some T.hd
    rw [e]; rfl
  have fnd : findObj K D od "__class__" = some (.bind (.builtin "getset_descriptor.__get__") (.builtin "object.__class__")) := found_get hcd T.ha T.hn T.ht
  obtain ⟨hp, gens, dr, tk, os⟩ := s
  have lt := I.type (M := model prog w)
  have lg := looks_findIn (M := model prog w) X T.hg
  have lk := looks_findIn (M := model prog w) X T.hk
  have lf := looks_find (M := model prog w) X I fnd
  have isE : Looks (model prog w) hp (isInstance (.ref x) (.type "BaseException")) true := lt.andThen (looks_subIn X T.hs)
  have no : (onTheHeap (Value.ref D) && Value.builtin "BaseException.__getattribute__" == Value.builtin "object.__getattribute__") = false := by
    have z : (Value.builtin "BaseException.__getattribute__" == Value.builtin "object.__getattribute__") = false := by decide +kernel
    rw [z]; rfl
  have GA := PySem.F.excAttr_ValueError.ga
  unfold getAttr?
  unfold getAttrBy?
  unfold getAttrBy
  refine wpAny_bind (wpAny_mkText (wpAny_bind (wpAny_attempt (wpAny_holding (wpAny_bind (lt.at (wpAny_bind (lg.at ?_))))))))
  show wpAny _ _ (ite (_ = true) _ _) _ _ _
  rw [no, if_neg Bool.false_ne_true]
  unfold getAttrByItsOwn
  unfold hookBefore
  refine wpAny_bind ?_
  rw [if_pos (show onTheHeap (.ref D) = true from rfl)]
  refine lk.at (wpAny_bind (wpAny_attempt (wpAny_holding ?_)))
  unfold callGetattribute
  rw [if_neg (show ¬ (false && onTheHeap (Value.builtin "BaseException.__getattribute__")) = true from Bool.false_ne_true)]
  unfold boundAndCalled
  rw [GA.bind (.ref x)]
  refine wpAny_bind ?_
  refine wpAny_pure ?_
  show wpAny _ _ (call _ [.ref x, .str "__class__" tk]) _ _ _
  refine wpAny_call (codeAny_call_builtin GA.plain PySem.F.entry_bexc_ga ?_)
  have aa := PySem.F.args_bexc_ga (.ref x) (.str "__class__" tk)
  refine @check_slot (model prog w) _ _ ⟨hp, gens, dr, tk + 1, os⟩ "BaseException.__getattribute__" "BaseException" "__getattribute__" (.ref x)
    [.str "__class__" tk] [] _ (by decide +kernel) (by decide +kernel) isE aa ?_
  unfold Builtin.«object.__getattribute__»
  refine wpAny_bind (wpAny_of_eq (a := (Value.ref x, [Value.str "__class__" tk])) (by first | rfl | (simp only [slotArgs]; rfl)) ?_)
  refine wpAny_bind (wpAny_pure (wpAny_bind (lt.at (wpAny_bind (lf.at ?_)))))
  show wpAny _ _ (holding [Value.builtin "object.__class__"]
    (call (.builtin "getset_descriptor.__get__") [.builtin "object.__class__", .ref x, .ref D]) >>= ret) _ _ _
  refine wpAny_bind (wpAny_holding (wpAny_call (class_get (s := ⟨hp, gens, dr, tk + 1, os⟩) (ox := ox) (od := od) X I T.hm ?_)))
  refine wpAny_pure ?_
  show wpAny _ _ (handedOut (Value.ref D)) _ _ _
  rw [handedOut_of (v := Value.ref D) rfl]
  first | exact wpAny_pure (wpAny_pure h) | exact wpAny_pure h
theorem kit_excd (T : L2.ExcC K D) : KitX K (.ref x) (.ref D) (fun h => ∃ ox od, InstAt h x ox D od) where
  ty := fun _ _ _ ⟨_, _, I⟩ => I.type
  it := fun M h Y _ => by
    obtain ⟨cd1, hc1, _⟩ := any_some T.hd
    unfold clsIn at hc1
    split at hc1
    · rename_i c1 d1 cd1 sl1 ho1
      intro A1 Q1 E1 s1 k1 q1
      unfold isType loadHead
      exact wpAny_bind (wpAny_loadPart (k1 _ _ (Y _ _ ho1)) (wpAny_pure q1))
    · cases hc1
  ne := (handS_kitx_exc (ox := ⟨.none, none, .fields #[], #[]⟩) (x := x) T.hg T.hk T.hs T.hd T.ha T.hn T.ht T.hm).ne
  ca := fun Y ⟨_, _, I⟩ k => class_of_exc T Y I k
end

/-! ### isinstance of an own class -/
section
open PySem PySem.Spec L2
variable [Tc]
/-- an exception of the class D is held at a -/
def ExcAt (D : Addr) (a : Addr) (H : Hp) : Prop := H a = some (ExV (.ref D) none a) ∨ ∃ d ws, H a = some (ExV (.ref D) (some d) a) ∧ H d = some (.xd ws)
theorem exc_inst {X : Cx} {D a : Addr} {H : Hp} {s : Shared} (e : ExcAt D a H) (hok : HOk X.prog X.w H s.heap) : ∃ ox od, PySem.W.InstAt s.heap a ox D od := by
  rcases e with e | ⟨d, ws, e, e2⟩
  · obtain ⟨⟨o, vs, h1, h2, h3, h4⟩, _, _⟩ := hok a _ e
    exact ⟨o, none, h1, h2, by unfold PySem.W.notCls; rw [h4] <;> rfl, by rw [h3]; trivial⟩
  · obtain ⟨⟨o, vs, h1, h2, h3, h4⟩, _, _⟩ := hok a _ e
    have hx : ObjOk X.prog X.w H s.heap d (.xd ws) := hok d _ e2
    obtain ⟨mA, hns, hr⟩ := hx
    obtain ⟨od, ho, hl⟩ := lookIn_ns hns
    exact ⟨o, some od, h1, h2, by unfold PySem.W.notCls; rw [h4] <;> rfl, by rw [h3]; exact ho⟩
def rIsC (K : PySem.W.Frag) (C : Addr) : List V → Hp → VK → Prop := fun xs H Q => ∃ (x : V) (b : Bool), xs = [x, .ref C] ∧ Q (.bl b) H ∧
  ((∃ t : String, TyX K H x (.type t) ∧ PySem.W.kitOne K (.type t) (.ref C) = some b) ∨ ∃ a D, x = .ref a ∧ ExcAt D a H ∧ ExcC K D ∧ PySem.W.kitOne K (.ref D) (.ref C) = some b)
theorem call_isC {X : Cx} {C : Addr} : CallR X (.builtin "isinstance") (rIsC X.K C) := fun _ _ _ H _ _ _ I r ⟨x, b, two, q, h⟩ => by
  subst two
  obtain ⟨u1, u2, rfl, r1, r2⟩ := vals2 r
  obtain rfl : u2 = Value.ref C := r2
  rcases h with ⟨t, ty, e⟩ | ⟨a, D, rfl, ea, T, e⟩
  · obtain ⟨P, Z, p, hx⟩ := kit_of I r1 ty
    exact PySem.W.kia_one Z I.kIn p e hx fun tk => ⟨.bl b, H, I.tok tk, rfl, q⟩
  · obtain rfl : u1 = Value.ref a := r1
    exact PySem.W.kia_one (kit_excd T) I.kIn (exc_inst ea I.hok) e (fun z => nomatch z) fun tk => ⟨.bl b, H, I.tok tk, rfl, q⟩
/-- the answers: of errors by the names of their classes, of other data no -/
def dIsC (yes no : List Str) : D → Option Bool
  | .exc n _ => if yes.contains n then some true else if no.contains n then some false else none
  | d => (tyD d).map fun _ => false
/-- the class at C: what isinstance of it answers -/
structure IsC (K : PySem.W.Frag) (mg : Str → Option Value) (C : Addr) (yes no : List Str) : Prop where
  y : ∀ n ∈ yes, ∃ D, mg n = some (.ref D) ∧ ExcC K D ∧ PySem.W.kitOne K (.ref D) (.ref C) = some true
  n : ∀ n ∈ no, ∃ D, mg n = some (.ref D) ∧ ExcC K D ∧ PySem.W.kitOne K (.ref D) (.ref C) = some false
  t : ∀ t ∈ ["NoneType", "bool", "int", "str", "list", "tuple", "dict"], PySem.W.kitOne K (.type t) (.ref C) = some false
theorem tyD_mem {d : D} {t : String} (e : tyD d = some t) : t ∈ ["NoneType", "bool", "int", "str", "list", "tuple", "dict"] := by
  cases d <;> cases e <;> decide
theorem exc_at {K : PySem.W.Frag} {mg : Str → Option Value} {G H : Hp} {n : Str} {fs : List (Str × D)} {v : V} (s : Sub G H) (r : Rep K mg G (.exc n fs) v) : ∃ C a, mg n = some (.ref C) ∧ v = .ref a ∧ ExcAt C a H := by
  cases r with
  | exc h1 h2 h3 _ _ => exact ⟨_, _, h1, rfl, .inr ⟨_, _, s _ _ h2, s _ _ h3⟩⟩
  | exc0 h1 h2 => exact ⟨_, _, h1, rfl, .inl (s _ _ h2)⟩
def mIsC (yes no : List Str) (m : M D) : M D := mBind m fun d => mOpt ((dIsC yes no d).map .bl)
section
variable {X : Cx} {W : WX} {e : Expr} {m : M D} {pos p1 p2 : Pos}
theorem de_isC {C : Addr} {c : Str} {yes no : List Str} (F : IsC X.K X.mg C yes no) (hC : X.mg c = some (.ref C)) (hi : X.mg "isinstance" = none) (ha : DE X W e m) (hgi : Gl X "isinstance" := by rfl) (hgx : Gl X c := by rfl) (hdb : (c == ("__debug__" : Str)) = false := by decide)
    (h1 : starEach (e :: [.Name c p2]) X.env = (false, eval e X.env) :: starEach [.Name c p2] X.env := by rfl) (h2 : starEach (.Name c p2 :: []) X.env = (false, eval (.Name c p2) X.env) :: starEach [] X.env := by rfl)
    (hpl : (backTo pos (starEach [.Name c p2] X.env)).any (·.1) = false := by rfl) :
    DE X W (.Call (.Name "isinstance" p1) [e, .Name c p2] [] pos) (mIsC yes no m) := by
  refine PEimp (pe_callB (call_isC (C := C)) hgi hi PyProof.Rows.boot_isinstance (pa_cons ha (pa_cons (pe_glob (v := .ref C) hgx hC rfl hdb) pa_nil h2) h1) (by decide) (by decide) h1 hpl) ?_
  rintro σ H Q ⟨G, ρ, S, st, p⟩
  refine ⟨G, ρ, S, st, (PostO.bind p).imp fun d ρ1 G1 H1 S1 _ ⟨t1, p1⟩ v r => ?_⟩
  obtain ⟨d', e', p2⟩ := PostO.opt p1
  obtain ⟨b, e2, rfl⟩ := Option.map_eq_some_iff.mp e'
  refine ⟨v, b, rfl, p2 _ _ _ (Stp.refl t1.st) _ (.bl b), ?_⟩
  have other : (tyD d).map (fun _ => false) = some b → ∃ t : String, TyX X.K H1 v (.type t) ∧ PySem.W.kitOne X.K (.type t) (.ref C) = some b := fun q => by
    obtain ⟨t, q1, rfl⟩ := Option.map_eq_some_iff.mp q
    exact ⟨t, ty_rep t1.st.sub r q1, F.t t (tyD_mem q1)⟩
  cases d with
  | exc n fs =>
    obtain ⟨D, a, hD, rfl, ea⟩ := exc_at t1.st.sub r
    refine .inr ⟨a, D, rfl, ea, ?_⟩
    simp only [dIsC] at e2
    split at e2
    · rename_i hy
      cases e2
      obtain ⟨D', h1, h2, h3⟩ := F.y n (by simpa using hy)
      rw [hD] at h1; cases h1
      exact ⟨h2, h3⟩
    · split at e2
      · rename_i hy
        cases e2
        obtain ⟨D', h1, h2, h3⟩ := F.n n (by simpa using hy)
        rw [hD] at h1; cases h1
        exact ⟨h2, h3⟩
      · cases e2
  | _ => exact .inl (other e2)
/-! ### a caught error's field -/
def dFld (f : Str) : D → Option D | .exc _ fs => fs.lookup f | _ => none
def mFld (f : Str) (m : M D) : M D := mBind m fun d => mOpt (dFld f d)
/-- what the classes that are named say of the field f -/
def FldC (K : PySem.W.Frag) (mg : Str → Option Value) (f : Str) (ns : List Str) : Prop := ∀ n ∈ ns, ∃ D, mg n = some (.ref D) ∧ XfC K D ∧ PySem.W.findIn K (.ref D) f = some none
def dFldN (ns : List Str) (f : Str) : D → Option D | .exc n fs => if ns.contains n then fs.lookup f else none | _ => none
def mFldN (ns : List Str) (f : Str) (m : M D) : M D := mBind m fun d => mOpt (dFldN ns f d)
theorem look_rep {K : PySem.W.Frag} {mg : Str → Option Value} {G : Hp} {f : Str} {d : D} : ∀ {fs : List (Str × D)} {ws : List (Str × V)}, fs.map (·.1) = ws.map (·.1) → RepL K mg G (fs.map (·.2)) (ws.map (·.2)) → fs.lookup f = some d → ∃ v, ws.lookup f = some v ∧ Rep K mg G d v
  | [], _, _, _, e => by cases e
  | (k, x) :: fs, [], h, _, _ => by cases h
  | (k, x) :: fs, (k', v) :: ws, h, r, e => by
    simp only [List.map_cons, List.cons.injEq] at h r
    obtain ⟨rfl, h⟩ := h
    cases r with
    | cons r1 r2 =>
      rw [List.lookup_cons] at e ⊢
      cases q : f == k with
      | true => rw [q] at e; cases e; exact ⟨v, rfl, r1⟩
      | false => rw [q] at e; exact look_rep h r2 e
theorem de_fld {n : Str} {ns : List Str} (F : FldC X.K X.mg n ns) (he : DE X W e m) (hb : attributeBase e n X.env (eval e X.env) = eval e X.env := by rfl) : DE X W (.Attribute e n pos) (mFldN ns n m) := by
  refine ⟨fun pins s σ H Q I ⟨G, ρ, S, st, p⟩ => ?_⟩
  refine attr_of hb (thn (he.run pins s σ H (fun x H1 => ∃ a C d fs v, x = .ref a ∧ XfC X.K C ∧ PySem.W.findIn X.K (.ref C) n = some none ∧ H1 a = some (ExV (.ref C) (some d) a) ∧ H1 d = some (.xd fs) ∧ fs.lookup n = some v ∧ Q v H1) I
    ⟨G, ρ, S, st, (PostO.bind p).imp fun d ρ1 G1 H1 S1 _ ⟨t1, p1⟩ v r => ?_⟩) fun u s1 hh => ?_)
  · obtain ⟨d', e', p2⟩ := PostO.opt p1
    cases d with
    | exc nm fs =>
      simp only [dFldN] at e'
      split at e'
      · rename_i hn
        obtain ⟨D, hD, T, hno⟩ := F nm (by simpa using hn)
        cases r with
        | exc h1 h2 h3 h4 l =>
          rw [hD] at h1; cases h1
          obtain ⟨v', q1, q2⟩ := look_rep h4 l e'
          exact ⟨_, D, _, _, v', rfl, T, hno, t1.st.sub _ _ h2, t1.st.sub _ _ h3, q1, p2 _ _ _ (Stp.refl t1.st) _ q2⟩
        | exc0 h1 h2 => cases e'
      · cases e'
    | _ => cases e'
  · obtain ⟨x, H1, I1, rx, a, C, d, fs, v, rfl, T, hno, ea, ed, l, q⟩ := hh
    obtain rfl : u = Value.ref a := rx
    obtain ⟨⟨o, vs, h1, h2, h3, h4⟩, _, _⟩ := I1.hok a _ ea
    have hx : ObjOk X.prog X.w H1 s1.heap d (.xd fs) := I1.hok d _ ed
    obtain ⟨mA, hns, hr⟩ := hx
    obtain ⟨od, ho, hl⟩ := lookIn_ns hns
    obtain ⟨w', hu, ru⟩ := RelO.some_of (v := v) (o := mA n) (by rw [← l]; exact hr n)
    have J : PySem.W.InstAt s1.heap a o C (some od) := ⟨h1, h2, by unfold PySem.W.notCls; rw [h4] <;> rfl, by rw [h3]; exact ho⟩
    refine HandSPX.exc_get I1.kIn J T.ga T.gg T.exC (PySem.W.findObj_own T.hdC hno rfl ?_) (handed_of ru) ⟨v, H1, I1.tok _, ru, q⟩
    rw [hl, hu]
end
end
end FW

set_option Elab.async false
set_option linter.all false
set_option maxRecDepth 100000
set_option maxHeartbeats 400000
/-! FW14: f(lambda: e), f a def that catches own errors and returns what it caught. -/
namespace FW
section
open PySem PySem.Spec L2
/-- what such a def makes of the lambda's reading -/
def TTc (K : PySem.W.Frag) (CS : Addr) : (XK → Hp → VK → Prop) → Hp → VK → Prop := fun tl H Q =>
  tl (fun cls d H' => PySem.W.exmOne K cls (.ref CS) = some true ∧ ∀ a, H' a = none → Q (.ref a) (upd H' a (ExV cls d a))) H fun _ H' => Q .non H'
/-- a name returned, its slot read when the slots are all there -/
theorem ps_retV {X : Cx} {i : Nat} {y : Str} {p1 p2 : Pos} (hi : X.N[i]? = some y) (hv : Vis X.env.scope y) (hd : (y == ("__debug__" : Str)) = false) (hcd : (y == ("__classdict__" : Str)) = false) :
    PS X (.Return (some (.Name y p1)) p2) (fun D σ H => σ.length = X.N.length → ∃ v, σ[i]? = some (some v) ∧ D.rt v H) :=
  ⟨fun pins s σ H D I h => (ps_ret (pe_var hi hv hd hcd)).run pins s σ H D I (h I.len)⟩
theorem caught_gives {X : Cx} {Ng : List Str} {x a y n e q : Str} {sg : Scope} {g CS : Addr} {cdg : Value} {i j j0 : Nat} {q1 q2 q3 p1 p2 p3 p4 p5 p6 p7 p8 p9 p10 pa : Pos} (hge : sg.names.lookup e = some .globalImplicit) (hme : X.mg e = some (.ref CS)) (hde : (e == ("__debug__" : Str)) = false)
    (hN : Ng.Nodup) (hi : Ng[i]? = some n) (hj : Ng[j]? = some y) (hij : i ≠ j) (hj0 : j ≠ 0) (hln : sg.names.lookup n = some .local) (hly : sg.names.lookup y = some .local) (h0 : ∀ f : Addr, (L2.start Ng [V.ref f])[0]? = some (some (V.ref f)))
    (hdn : (n == ("__debug__" : Str)) = false) (hcn : (n == ("__classdict__" : Str)) = false) (hdy : (y == ("__debug__" : Str)) = false) (hcy : (y == ("__classdict__" : Str)) = false) :
    LamX.GivesTo X Ng x sg g cdg [.Assign [.Name y q1] (.Constant .none j0 q2) q3, .Try [.Expr (.Call (.Name a p1) [] [] p2) p3] [.ExceptHandler (some (.Name e p4)) (some n) [.Assign [.Name y p5] (.Name n p6) pa] p7] [] [] p8, .Return (some (.Name y p9)) p10] a q (TTc X.K CS) := by
  intro f c' s H Q tl act hc h
  have hgl : Gl (cxOf C8.CX0 X.prog X.w X.K X.mg X.base Ng x sg g cdg X.A X.stack s H C8.E0).nox e := hge
  have tr := ps_try_keep (X := (cxOf C8.CX0 X.prog X.w X.K X.mg X.base Ng x sg g cdg X.A X.stack s H C8.E0).nox) (c := .ref CS) (np := p4) (ny := p5) (nn := p6) (pa := pa) (pos := p8) (pos' := p7) (body := [.Expr (.Call (.Name a p1) [] [] p2) p3])
      (tb := fun W D σ H => ∃ Ech : XK, (∀ cls d σ' H', Ech cls d H' → W cls d σ' H') ∧ σ[0]? = some (some (.ref f)) ∧ H c' = some (LamX.CodeO c' q) ∧ tl Ech H (fun _ H' => D.nx σ H'))
      rfl rfl hN hi hj hij hln hly ⟨hgl, hde, .inl hme⟩ rfl (fun W pn xe tk => ⟨fun pins s' σ H' D I h' => ?_⟩) hdn hcn rfl rfl rfl
  rotate_left
  · obtain ⟨Ech, hW, h1, h2, h3⟩ := h'
    exact (pss_one (ps_expr (act W pn xe Ech p1 p2 tk hW))).run pins s' σ H' D I ⟨h1, h2, h3⟩
  refine ⟨_, pss_cons (ps_asg pe_non (pg_name hN hj (.inl hly) (.inr hly)) rfl rfl rfl) (pss_cons tr (pss_one (ps_retV hj (.inl hly) hdy hcy))), ?_⟩
  show ∃ Ech : XK, _ ∧ _ ∧ _ ∧ _
  have hjl : j < Ng.length := (List.getElem?_eq_some_iff.mp hj).1
  have ln : (L2.start Ng [V.ref f]).length = Ng.length := by
    unfold L2.start
    simp only [List.length_append, List.length_map, List.length_cons, List.length_nil, List.length_replicate]
    omega
  have z : (fun (_ : V) (H' : Hp) => ((L2.start Ng [V.ref f]).set j (some .non)).length = Ng.length → ∃ v, ((L2.start Ng [V.ref f]).set j (some V.non))[j]? = some (some v) ∧ Q v H') = fun _ H' => Q .non H' := by
    funext _ H'
    refine propext ⟨fun k => ?_, fun k _ => ⟨.non, List.getElem?_set_self (by rw [ln]; exact hjl), k⟩⟩
    obtain ⟨v, e, k⟩ := k (by rw [List.length_set]; exact ln)
    rw [List.getElem?_set_self (by rw [ln]; exact hjl)] at e
    cases e
    exact k
  refine ⟨fun cls d H' => PySem.W.exmOne X.K cls (.ref CS) = some true ∧ ∀ a, H' a = none → Q (.ref a) (upd H' a (ExV cls d a)), fun cls d σ' H' ⟨e1, e2⟩ => ⟨e1, fun a na hl => ⟨.ref a, ?_, e2 a na⟩⟩, ?_, hc, ?_⟩
  · have hl : (((σ'.set i (some (.ref a))).set j (some (.ref a))).set i none).length = Ng.length := hl
    simp only [List.length_set] at hl
    rw [List.getElem?_set_ne hij, List.getElem?_set_self (by rw [List.length_set, hl]; exact hjl)]
  · rw [List.getElem?_set_ne hj0]; exact h0 f
  · exact z ▸ h
end

section
open PySem PySem.Spec L2
variable [Tc]
/-- of what was caught: nothing, or the error as a value -/
def mCaught (ns : List Str) (m : M D) : M D := fun ρ => match m ρ with
  | .ok _ ρ' => .ok .non ρ'
  | .err n fs ρ' => if ns.contains n then .ok (.exc n fs) ρ' else .bad
  | .bad => .bad
theorem extN_stp {K : PySem.W.Frag} {mg : Str → Option Value} {G H H1 : Hp} {S : List Addr} {σ : Sg} {ρ : Env} (st : StOk K mg G H σ ρ S) (e : LamX.ExtN H H1) (t : LamX.Tabs Tc.T H1) : Stp K mg G H S σ ρ G H1 S σ ρ where
  sub := Sub.refl _
  keep := fun a o h nt n _ => ⟨n, e a o h nt⟩
  own := fun _ h => .inl h
  trk := fun a h o e2 => by
    cases o with
    | tbl ps => exact ⟨ps, rfl⟩
    | _ =>
      obtain ⟨ps, z⟩ := h _ (e a _ e2 (fun ps z => by cases z))
      cases z
  back := fun _ s e h => ⟨rfl, s, e, h⟩
  st := ⟨fun a o h => e a o (st.sub a o h) (st.gno a o h), st.sls.mono (Sub.refl _) fun a ha => by
    obtain ⟨o, h1, h2⟩ := st.sls.tracked a ha
    rw [h1]; exact e a o h1 h2, st.nd, st.out, st.gno, t⟩
theorem ntb_ext {c : Value} {d : Option Addr} {a : Addr} : NTb (ExV c d a) := fun ps z => by unfold ExV at z; cases z
section
variable {X : Cx} {W : WX} {m : M D}
theorem de_caught {x a : Str} {g CS c P : Addr} {k : Nat} {pg : Arguments} {bg : List Stmt} {sg : Scope} {fd : FuncData} {Ng ns : List Str} {params : Arguments} {body : Expr} {scope : Scope} {p lpos pos : Pos} (F : FunD X.K x x pg bg sg [] [] g fd) (hm : X.mg x = some (.ref g))
    (hb : L2.Binds X.K fd [a] []) (Sg : FnScope Ng [a] sg) (hG : ∀ cdv, LamX.GivesTo X Ng x sg g cdv bg a (X.env.qual ++ "<lambda>") (TTc X.K CS)) (hns : ∀ n ∈ ns, ∃ C, X.mg n = some (.ref C) ∧ PySem.W.exmOne X.K (.ref C) (.ref CS) = some true)
    (TB : LamX.TabB X.base X.mg c P) (hcode : X.env.code = .ref c) (hmT : (P, X.env.qual ++ "<lambda>") ∈ Tc.T) (hu : ∀ p ∈ Tc.T, p.1 = P → p.2 = X.env.qual ++ "<lambda>") (hr : Room (k + 2) X.A)
    (hbody : ∀ (A : Around) (outer : List PySem.Env) (s : Shared) (H : Hp) (E : XK) (f c' : Addr), Room k (A.deeper (LamX.lamEnv X scope s.heap.objs.size f c')) → DE (LamX.lamCx X A outer s H E scope f c') (WEx E) body m)
    (hNg : Ng[0]? = some a := by rfl) (hva : Vis sg a := by first | exact Or.inl rfl | exact Or.inr (Or.inl rfl) | exact Or.inr (Or.inr rfl)) (L : LamX.LamS X.env.scope scope := by exact LamX.lamS_by (by decide +kernel)) (hdef : defaultsOf params X.env = ([], []) := by rfl)
    (hbind : ∀ (q : Str) (cl : List (Str × Addr)) (pm cv ctv : Value), bindArgs (PySem.W.kla_fn "<lambda>" q params body scope cl pm cv ctv) ⟨[], []⟩ = pure [] := by intros; rfl) (hg : Gl X x := by rfl)
    (hdb : (x == ("__debug__" : Str)) = false := by decide) (hd : (a == ("__debug__" : Str)) = false := by decide) (hcd : (a == ("__classdict__" : Str)) = false := by decide) :
    DE X W (.Call (.Name x p) [.Lambda params body scope lpos] [] pos) (mCaught ns m) := by
  obtain ⟨oc, od, dV, kV, doc, pm, an, cdv, ct, osl, rfl, lk, hcg, _, _⟩ := F.ex
  refine PEimp (LamX.pe_lamcall (T := Tc.T) (t := fun E => rdE X.K X.mg (WEx E) m) hg hm F.kp lk hcg hb Sg hNg hva (hG cdv) TB hcode hmT hu hr L hdef hbind hbody hdb hd hcd) ?_
  rintro σ H Q ⟨G, ρ, S, st, p⟩
  refine ⟨st.tab, fun H1 eN T1 => ?_⟩
  have t0 := extN_stp st eN T1
  refine ⟨G, ρ, S, t0.st, ?_⟩
  unfold mCaught at p
  cases e : m ρ with
  | ok d ρ' =>
    rw [e] at p
    exact fun G' H' S' t v _ => p G' H' S' (t0.trans t) _ .non
  | err n fs ρ' =>
    rw [e] at p
    simp only at p
    split at p
    · rename_i hn
      intro G' H' S' cv dd t er
      obtain ⟨C, h1, rfl, h2⟩ := er
      obtain ⟨C', h3, h4⟩ := hns n (by simpa using hn)
      rw [h1] at h3; cases h3
      refine ⟨h4, fun ax nax => ?_⟩
      have al := Al.new (o := ExV (.ref C) dd ax) t.st.sub nax ntb_ext
      have t2 := (t0.trans t).trans (al.stp t.st)
      refine p _ _ _ t2 _ ?_
      rcases h2 with ⟨rfl, rfl⟩ | ⟨d, ws, rfl, q1, q2, q3⟩
      · exact .exc0 h1 upd_same
      · exact .exc h1 upd_same (al.sub _ _ q1) q2 (q3.sub al.sub)
    · exact p.elim
  | bad => rw [e] at p; exact p.elim
end
end
end FW

set_option Elab.async false
set_option linter.all false
set_option maxRecDepth 100000
set_option maxHeartbeats 400000
/-! FW15: defs by their data (He.DefD), calls of them, with keywords too. -/
namespace FW
open PySem PySem.Spec L2
open PyProof.Rows (envOfC)
variable [Tc]
section
variable {P : Program} {w : World} {K : PySem.W.Frag} {mg : Str → Option Value} {base : Heap}
/-- what a body's reading gives of the def's -/
theorem body_ok {N : List Str} {np kn : Nat} {mb : MS} {vs : List V} {H : Hp} {Q : VK} {E : XK} {cx : Cx} {body : List Stmt} (hc : cx.K = K) (hm : cx.mg = mg) (hk : N.length = np + kn) (h : spF K mg np (mFn kn mb) vs H Q E) (hb : DSs cx (WEx E) body mb) :
    ∃ t, PSs cx body t ∧ t { nx := fun _ H' => Q .non H', rt := Q } (L2.start N vs) H := by
  subst hc hm
  refine ⟨_, hb, ?_⟩
  obtain ⟨hl, G, ss, S0, st0, p⟩ := h
  have e0 : L2.start N vs = vs.map some ++ List.replicate kn none := by
    unfold L2.start
    rw [hk, hl]
    congr 2
    omega
  rw [e0]
  have st1 : StOk cx.K cx.mg G H (vs.map some ++ List.replicate kn none) (ss ++ List.replicate kn .un) S0 := ⟨st0.sub, st0.sls.pad kn, st0.nd, st0.out, st0.gno, st0.tab⟩
  refine ⟨G, _, S0, st1, ?_⟩
  unfold mFn at p
  show PostS cx.K cx.mg (WEx E) G H S0 _ _ (mb (ss ++ List.replicate kn .un)) _
  cases q : mb (ss ++ List.replicate kn .un) with
  | nx ρ' =>
    rw [q] at p
    simp only at p
    cases q2 : exitL ss ρ' with
    | none => rw [q2] at p; exact p.elim
    | some μ =>
      rw [q2] at p
      intro G' H' S' σ' t
      obtain ⟨S2, t2⟩ := exit_stp st0 t q2
      exact p _ _ _ t2 _ .non
  | rt d ρ' =>
    rw [q] at p
    simp only at p
    cases q2 : exitL ss ρ' with
    | none => rw [q2] at p; exact p.elim
    | some μ =>
      rw [q2] at p
      intro G' H' S' σ' v t r
      obtain ⟨S2, t2⟩ := exit_stp st0 t q2
      exact p _ _ _ t2 _ r
  | bk ρ' => rw [q] at p; exact p.elim
  | ct ρ' => rw [q] at p; exact p.elim
  | err n fs ρ' =>
    rw [q] at p
    simp only at p
    cases q2 : exitL ss ρ' with
    | none => rw [q2] at p; exact p.elim
    | some μ =>
      rw [q2] at p
      intro G' H' S' σ' c dd t er
      obtain ⟨S2, t2⟩ := exit_stp st0 t q2
      exact p _ _ _ c dd t2 er
  | bad => rw [q] at p; exact p.elim
/-- a def of the text that keeps its promise -/
structure Cal (P : Program) (w : World) (K : PySem.W.Frag) (mg : Str → Option Value) (base : Heap) (x : Str) (pr : Arguments) (k : Nat) (ps : List Str) (F : M D) : Prop where
  ex : ∃ (f : Addr) (fd : FuncData) (body : List Stmt) (sc : Scope) (q : Str), FunD K x q pr body sc [] [] f fd ∧ FnOk P w K mg base (L2.CX P w) k f fd ps (spF K mg ps.length F) ∧ mg x = some (.ref f)
theorem cal_mk {x q : Str} {pr : Arguments} {body : List Stmt} {sc : Scope} {f : Addr} {fd : FuncData} {N ps : List Str} {k kn : Nat} {mb : MS} (F : FunD K x q pr body sc [] [] f fd) (hg : mg x = some (.ref f)) (S : FnScope N ps sc)
    (hbody : ∀ (cdv : Value) (A : Around) (outer : List PySem.Env) (s : Shared) (H : Hp) (E : XK), (∃ fd oc od osl, K.lookup f = some ⟨oc, od, .func fd, osl⟩ ∧ fd.code = cdv) → Room k (A.deeper (envOfC q sc s.heap.objs.size f cdv)) →
      DSs (cxOf (L2.CX P w) P w K mg base N q sc f cdv A outer s H E) (WEx E) body mb) (hk : N.length = ps.length + kn := by rfl) : Cal P w K mg base x pr (k + 1) ps (mFn kn mb) := by
  obtain ⟨oc, od, dV, kV, doc, pm, an, cdv, ct, osl, efd, lk, hcd, _, _⟩ := F.ex
  subst efd
  exact ⟨f, _, body, sc, q, F, fn_of lk hcd S (fun vs H Q E h => h.1) fun A outer s H vs Q E hr h => body_ok rfl rfl hk h (hbody cdv A outer s H E ⟨_, _, _, _, lk, rfl⟩ hr), hg⟩
end
/-- how positional arguments bind; a def's own fact of its arguments -/
abbrev BindsN (x : Str) (pr : Arguments) (ps : List Str) : Prop := ∀ (q : Str) (body : List Stmt) (sc : Scope) (kV doc pm : Value) (an : Option Addr) (cdv ct : Value) (us : List Value), us.length = ps.length → bindArgs (PySem.W.fnOf x q pr body sc .none kV doc pm an cdv ct) ⟨us, []⟩ = pure (ps.zip us)
def pick {α : Type} (π : List Nat) (l : List α) : List α := π.filterMap (l[·]?)
/-- .. with keywords named ks behind n positional ones, π: where each parameter's stands -/
abbrev BindsK (x : Str) (pr : Arguments) (ps : List Str) (n : Nat) (ks : List Str) (π : List Nat) : Prop := ∀ (q : Str) (body : List Stmt) (sc : Scope) (kV doc pm : Value) (an : Option Addr) (cdv ct : Value) (us ws : List Value), us.length = n → ws.length = ks.length →
  bindArgs (PySem.W.fnOf x q pr body sc .none kV doc pm an cdv ct) ⟨us, ks.zip ws⟩ = pure (ps.zip (pick π (us ++ ws)))
theorem vals_get {vs : List V} {us : List Value} (r : Vals vs us) (i : Nat) : (vs[i]? = none ∧ us[i]? = none) ∨ ∃ v u, vs[i]? = some v ∧ us[i]? = some u ∧ RelV v u := by
  induction r generalizing i with
  | nil => exact .inl ⟨by simp, by simp⟩
  | cons h t ih =>
    cases i with
    | zero => exact .inr ⟨_, _, rfl, rfl, h⟩
    | succ i => simpa using ih i
theorem vals_pick {vs : List V} {us : List Value} (r : Vals vs us) : ∀ π : List Nat, Vals (pick π vs) (pick π us)
  | [] => .nil
  | i :: π => by
    unfold pick
    rcases vals_get r i with ⟨h1, h2⟩ | ⟨v, u, h1, h2, h3⟩
    · rw [List.filterMap_cons, h1, List.filterMap_cons, h2]; exact vals_pick r π
    · rw [List.filterMap_cons, h1, List.filterMap_cons, h2]; exact .cons h3 (vals_pick r π)
theorem repl_pick {K : PySem.W.Frag} {mg : Str → Option Value} {G : Hp} {ds : List D} {vs : List V} (r : RepL K mg G ds vs) : ∀ π : List Nat, RepL K mg G (pick π ds) (pick π vs)
  | [] => .nil
  | i :: π => by
    unfold pick
    cases e : ds[i]? with
    | none =>
      have e2 : vs[i]? = none := by
        rw [List.getElem?_eq_none_iff] at e ⊢
        rw [← r.length]; exact e
      rw [List.filterMap_cons, e, List.filterMap_cons, e2]; exact repl_pick r π
    | some d =>
      obtain ⟨v, e2, q⟩ := r.get e
      rw [List.filterMap_cons, e, List.filterMap_cons, e2]; exact .cons q (repl_pick r π)
abbrev DK (X : Cx) (W : WX) (kws : List Keyword) (m : M (List D)) : Prop := PK X kws (rdA X.K X.mg W m)
section
variable {X : Cx} {W : WX} {k n : Nat} {ps ks : List Str} {π : List Nat} {F : M D} {x : Str} {pr : Arguments} {e : Expr} {es : List Expr} {kws : List Keyword} {ma mk : M (List D)} {m : M D} {p pos kpos : Pos} {nm : Option Str}
theorem dk_nil : DK X W [] (mPure []) := ⟨fun pos pins s σ H Q I ⟨_, _, _, st, p⟩ => pk_nil.run pos pins s σ H Q I (p _ _ _ (Stp.refl st) _ .nil)⟩
theorem dk_cons (h : DE X W e m) (t : DK X W kws mk) : DK X W (⟨nm, e, kpos⟩ :: kws) (mCons m mk) := by
  refine ⟨fun pos pins s σ H Q I ⟨G, ρ, S, st, p⟩ => (pk_cons h t).run pos pins s σ H Q I ?_⟩
  refine ⟨G, ρ, S, st, (PostO.bind p).imp fun d ρ1 G1 H1 S1 _ ⟨t1, p1⟩ v r => ⟨G1, ρ1, S1, t1.st, (PostO.bind p1).imp fun ds ρ2 G2 H2 S2 _ ⟨t2, p2⟩ vs rs => ?_⟩⟩
  exact p2 _ _ _ (Stp.refl t2.st) _ (.cons (r.sub t2.sub) rs)
theorem dc (j : Nat) (C : Cal X.prog X.w X.K X.mg X.base x pr j ps F) (hb : BindsN x pr ps) (hr : Room k X.A) (tk : Takes X W) (ha : DA X W (e :: es) ma) (hj : j ≤ k := by decide) (hg : Gl X x := by rfl) (hdb : (x == ("__debug__" : Str)) = false := by decide)
    (he : starEach (e :: es) X.env = (false, eval e X.env) :: starEach es X.env := by rfl) (hpl : (backTo pos (starEach es X.env)).any (·.1) = false := by rfl) : DE X W (.Call (.Name x p) (e :: es) [] pos) (mCallF ps.length F ma) := by
  obtain ⟨f, fd, body, sc, q, FD, FO, hm⟩ := C.ex
  exact de_call FO (hr.mono hj) hm FD.kp (FD.bindsN fun kV doc pm an cdv ct us hl => hb q body sc kV doc pm an cdv ct us hl) tk ha hg hdb he hpl
/-- f(x, e, ..), x an own thing in slot i -/
theorem dcB (i j : Nat) {y : Str} {p2 : Pos} (C : Cal X.prog X.w X.K X.mg X.base x pr j ps F) (hb : BindsN x pr ps) (hr : Room k X.A) (tk : Takes X W) (ha : DA X W es ma) (hj : j ≤ k := by decide) (hN : X.N[i]? = some y := by rfl)
    (hv : Vis X.env.scope y := by first | exact Or.inl rfl | exact Or.inr (Or.inl rfl) | exact Or.inr (Or.inr rfl)) (hg : Gl X x := by rfl) (hdb : (x == ("__debug__" : Str)) = false := by decide)
    (hdy : (y == ("__debug__" : Str)) = false := by decide) (hcd : (y == ("__classdict__" : Str)) = false := by decide)
    (he : starEach (.Name y p2 :: es) X.env = (false, eval (.Name y p2) X.env) :: starEach es X.env := by rfl) (hpl : (backTo pos (starEach es X.env)).any (·.1) = false := by rfl) : DE X W (.Call (.Name x p) (.Name y p2 :: es) [] pos) (mCallB i ps.length F ma) := by
  obtain ⟨f, fd, body, sc, q, FD, FO, hm⟩ := C.ex
  exact de_callB1 i FO (hr.mono hj) hm FD.kp (FD.bindsN fun kV doc pm an cdv ct us hl => hb q body sc kV doc pm an cdv ct us hl) tk ha hN hv hg hdb hdy hcd he hpl
theorem FunD.kbn {q : Str} {body : List Stmt} {sc : Scope} {f : Addr} {fd : FuncData} (FD : FunD X.K x q pr body sc [] [] f fd) (hb : BindsK x pr ps n ks π) : KBn X.K fd ps n ks (fun us ws => pick π (us ++ ws)) (fun vs zs => pick π (vs ++ zs)) := by
  obtain ⟨oc, od, dV, kV, doc, pm, an, cdv, ct, osl, rfl, lk, hcd, hD, hK⟩ := FD.ex
  refine ⟨fun s us ws _ l1 l2 => ?_, fun r1 r2 => vals_pick (r1.append r2) π⟩
  rcases hD with ⟨_, rfl⟩ | ⟨e, _⟩
  · exact .of_eq (hb q body sc kV doc pm an cdv ct us ws l1 l2)
  · exact absurd rfl e
theorem run_K {pins : List (Addr × Obj)} {σ : L2.St} {H : Hp} {s : Shared} {Q : VK} {us ws : List Value} {vs zs : List V} {f : Addr} {fd : FuncData} {sp : Sp} {g : List Value → List Value → List Value} {gV : List V → List V → List V} (FO : FnOk X.prog X.w X.K X.mg X.base (L2.CX X.prog X.w) k f fd ps sp) (hr : Room k X.A) (hb : KBn X.K fd ps n ks g gV) (tk : Takes X W)
    (I : Inv X pins σ H s) (r : Vals vs us) (rz : Vals zs ws) (l1 : vs.length = n) (l2 : zs.length = ks.length) (h : sp (gV vs zs) H Q (WE W σ)) : wpAny (model X.prog X.w) X.A (call (.ref f) us (ks.zip ws)) (EP X pins σ Q) X.xe s := by
  have b := hb.to s us ws I.kIn (r.length.symm.trans l1) (rz.length.symm.trans l2)
  refine wpAny_call (codeAny_mono (FO.run X.A X.stack s H ⟨us, ks.zip ws⟩ (g us ws) (gV vs zs) Q (WE W σ) hr I.env0 b (hb.rel r rz) h) fun r s' hq => ?_)
  cases r with
  | error e => exact passAt tk σ pins H s e s' I hq
  | ok fl =>
    cases fl with
    | ret u => exact I.after hq
    | next => exact hq.elim
    | brk => exact hq.elim
    | cont => exact hq.elim
/-- f(e, .., k = e, ..): positional ones first, each parameter's where π says -/
def mCallK (np n m : Nat) (π : List Nat) (F : M D) (ma mk : M (List D)) : M D := mCallF np F (mBind ma fun ds => mBind mk fun es => mOpt (if ds.length = n ∧ es.length = m then some (pick π (ds ++ es)) else none))
theorem dcK_read {σ : Sg} {H : Hp} {Q : VK} (h : rdE X.K X.mg W (mCallK ps.length n ks.length π F ma mk) σ H Q) : rdA X.K X.mg W ma σ H fun vs H1 => rdA X.K X.mg W mk σ H1 fun zs H2 => vs.length = n ∧ zs.length = ks.length ∧ spF X.K X.mg ps.length F (pick π (vs ++ zs)) H2 Q (WE W σ) := by
  obtain ⟨G, ρ, S, st, p⟩ := h
  have e : mCallK ps.length n ks.length π F ma mk ρ = (ma ρ).then fun ds => mBind mk fun es => mBind (mOpt (if ds.length = n ∧ es.length = ks.length then some (pick π (ds ++ es)) else none)) fun as => mCallF ps.length F (mPure as) := by
    unfold mCallK mCallF mBind
    cases ma ρ with
    | ok a ρ' =>
      simp only [Out.then]
      cases mk ρ' with
      | ok b ρ'' =>
        simp only [Out.then, mOpt]
        split <;> rfl
      | err _ _ _ => rfl
      | bad => rfl
    | err _ _ _ => rfl
    | bad => rfl
  rw [e] at p
  refine ⟨G, ρ, S, st, (PostO.bind p).imp fun ds ρ1 G1 H1 S1 _ ⟨t1, p1⟩ vs rs => ⟨G1, ρ1, S1, t1.st, (PostO.bind p1).imp fun zs ρ2 G2 H2 S2 _ ⟨t2, p2⟩ ws rz => ?_⟩⟩
  unfold mBind mOpt at p2
  split at p2
  · rename_i as e1
    split at e1
    · rename_i hl
      cases e1
      have p2 : PostO X.K X.mg W G2 H2 S2 σ ρ2 (mCallF ps.length F (mPure (pick π (ds ++ zs))) ρ2) _ := p2
      have rr := repl_pick ((rs.sub t2.sub).append rz) π
      refine ⟨by rw [← rs.length]; exact hl.1, by rw [← rz.length]; exact hl.2, ?_⟩
      have p3 : PostO X.K X.mg W G2 H2 S2 σ ρ2 (if (pick π (ds ++ zs)).length = ps.length then (match F (dats (pick π (ds ++ zs))) with | .ok d _ => Out.ok d ρ2 | .err n fs _ => .err n fs ρ2 | .bad => .bad) else .bad) _ := p2
      split at p3
      · rename_i hn
        refine ⟨by rw [← rr.length]; exact hn, G2, dats (pick π (ds ++ zs)), [], ⟨t2.st.sub, sls_dats rr, by simp, by simp, t2.st.gno, t2.st.tab⟩, ?_⟩
        cases q : F (dats (pick π (ds ++ zs))) with
        | ok d ρ' =>
          rw [q] at p3
          exact fun G' H' S' t => p3 _ _ _ (call_stp t2.st t)
        | err m fs ρ' =>
          rw [q] at p3
          exact fun G' H' S' c dd t er => p3 _ _ _ c dd (call_stp t2.st t) er
        | bad => rw [q] at p3; exact p3.elim
      · exact p3.elim
    · cases e1
  · exact p2.elim
theorem dcK (j n : Nat) (π : List Nat) (C : Cal X.prog X.w X.K X.mg X.base x pr j ps F) (hb : BindsK x pr ps n ks π) (hr : Room k X.A) (tk : Takes X W) (ha : DA X W (e :: es) ma) (hkw : DK X W kws mk) (hj : j ≤ k := by decide) (hg : Gl X x := by rfl) (hdb : (x == ("__debug__" : Str)) = false := by decide)
    (hall : (backToKw pos (keywordEach kws X.env)).all (·.1.isSome) = true := by rfl) (hks : (backToKw pos (keywordEach kws X.env)).filterMap (·.1) = ks := by rfl)
    (he : starEach (e :: es) X.env = (false, eval e X.env) :: starEach es X.env := by rfl) (hpl : ((backTo pos (starEach (e :: es) X.env)).any (·.1) || (backToKw pos (keywordEach kws X.env)).any (·.1.isNone)) = false := by rfl) : DE X W (.Call (.Name x p) (e :: es) kws pos) (mCallK ps.length n ks.length π F ma mk) := by
  obtain ⟨f, fd, body, sc, q, FD, FO, hm⟩ := C.ex
  refine ⟨fun pins s σ H Q I h => ?_⟩
  refine wpAny_Call_Name_kw (ld_glob I hg hm ?_ hdb)
  refine PySem.W.callWith_KW (h₀ := X.base) I.ok.mod.kin FD.kp hall (thn (ha.run pos pins s σ H _ I (dcK_read h)) fun us s1 ⟨vs, H1, I1, r, q⟩ => ?_) hpl he
  refine thn (hkw.run pos pins s1 σ H1 _ I1 q) fun ws s2 ⟨zs, H2, I2, rz, l1, l2, q2⟩ => ⟨I2.kIn, ?_⟩
  rw [hks]
  exact run_K FO (hr.mono hj) (FunD.kbn FD hb) tk I2 r rz l1 l2 q2
theorem dcK0 (j : Nat) (π : List Nat) (C : Cal X.prog X.w X.K X.mg X.base x pr j ps F) (hb : BindsK x pr ps 0 ks π) (hr : Room k X.A) (tk : Takes X W) (hkw : DK X W kws mk) (hj : j ≤ k := by decide) (hg : Gl X x := by rfl) (hdb : (x == ("__debug__" : Str)) = false := by decide)
    (hall : (backToKw pos (keywordEach kws X.env)).all (·.1.isSome) = true := by rfl) (hks : (backToKw pos (keywordEach kws X.env)).filterMap (·.1) = ks := by rfl)
    (hpl : ((backTo pos (starEach [] X.env)).any (·.1) || (backToKw pos (keywordEach kws X.env)).any (·.1.isNone)) = false := by rfl) : DE X W (.Call (.Name x p) [] kws pos) (mCallK ps.length 0 ks.length π F (mPure []) mk) := by
  obtain ⟨f, fd, body, sc, q, FD, FO, hm⟩ := C.ex
  refine ⟨fun pins s σ H Q I h => ?_⟩
  refine wpAny_Call_Name_kw (ld_glob I hg hm ?_ hdb)
  obtain ⟨G, ρ, S, st, p1⟩ := dcK_read h
  have h2 : rdA X.K X.mg W mk σ H fun zs H2 => _ ∧ zs.length = ks.length ∧ spF X.K X.mg ps.length F (pick π ([] ++ zs)) H2 Q (WE W σ) := p1 G H S (Stp.refl st) [] .nil
  refine PySem.W.callWith_KW0 (h₀ := X.base) I.ok.mod.kin FD.kp hall (thn (hkw.run pos pins s σ H _ I h2) fun ws s2 ⟨zs, H2, I2, rz, _, l2, q2⟩ => ⟨I2.kIn, ?_⟩) hpl
  rw [hks]
  exact run_K FO (hr.mono hj) (FunD.kbn FD hb) tk I2 .nil rz rfl l2 q2
end
end FW

set_option Elab.async false
set_option linter.all false
set_option maxRecDepth 100000
set_option maxHeartbeats 400000
/-! FW16: the end of a law: its def's promise at the script, over a head by facts with tables. -/
namespace FW
open PySem PySem.Spec L2
section
variable [Tc] {K : PySem.W.Frag} {mg : Str → Option Value}
theorem repl_ints {G : Hp} : ∀ ns : List Int, RepL K mg G (ns.map D.int) (ns.map V.int)
  | [] => .nil
  | n :: ns => .cons (.int n) (repl_ints ns)
/-- what is no table -/
def noTab (H : Hp) : Hp := fun b => match H b with | some (.tbl _) => none | o => o
theorem noTab_sub (H : Hp) : Sub (noTab H) H := fun b o e => by
  unfold noTab at e
  split at e
  · cases e
  · exact e
theorem noTab_ntb (H : Hp) {b : Addr} {o : HO} (e : noTab H b = some o) : NTb o := fun ps z => by
  unfold noTab at e
  split at e
  · cases e
  · rename_i h
    rw [z] at e
    exact h _ e
theorem noTab_get {H : Hp} {b : Addr} {o : HO} (e : H b = some o) (n : NTb o) : noTab H b = some o := by
  unfold noTab
  split
  · rename_i ps h
    rw [e] at h
    exact (n ps (Option.some.inj h)).elim
  · exact e
theorem law_sp {F : M D} {H : Hp} {a : Addr} {ns : List Int} (hF : ∃ ρ', F [.dat (.rol (ns.map .int))] = .ok (.bl true) ρ') (hT : ∀ p ∈ Tc.T, H p.1 = some (.tbl #[])) (hS : SqL K H a (ns.map V.int)) :
    spF K mg 1 F [.ref a] H (fun v _ => v = .bl true) fun _ _ _ => False := by
  obtain ⟨ρ', e⟩ := hF
  have hG : SqL K (noTab H) a (ns.map V.int) := by
    rcases hS with (h | ⟨o, h⟩) | h
    · exact .inl (.inl (noTab_get h ntb_lst))
    · exact .inl (.inr ⟨o, noTab_get h (fun _ z => by cases z)⟩)
    · exact .inr h
  refine ⟨rfl, noTab H, [.dat (.rol (ns.map .int))], [], ⟨noTab_sub H, Sls.cons (T := []) (.dat (.rol hG (repl_ints ns))) .nil, by simp, by simp, fun b o e => noTab_ntb H e, fun p hp => LamX.TabS.nil (hT p hp)⟩, ?_⟩
  rw [e]
  intro G' H' S' t v r
  cases r
  rfl
end
end FW

set_option Elab.async false
set_option linter.all false
set_option maxRecDepth 100000
set_option maxHeartbeats 400000
/-! FW17: the state of a law's draws: its fields read, written, walked; made by its own def. -/
namespace FW
open PySem PySem.Spec L2
open PyProof.Rows (envOfC)
variable [Tc]
section
variable {K : PySem.W.Frag} {mg : Str → Option Value} {G H : Hp} {S1 S2 T : List Addr} {σ : Sg} {ρ : Env} {i : Nat} {s s' : Sl} {p q : Addr} {o o0 : HO}
/-- one object of an own thing changes at its place -/
theorem own_setT (st : StOk K mg G H σ ρ (S1 ++ T ++ S2)) (hi : ρ[i]? = some s) (hσ : σ[i]? = some (some (.ref p))) (hio : s'.io = true → s.io = true)
    (set4 : ∀ G' H' s' o' T', Sub G G' → (∀ a ∈ S1 ++ S2, H' a = H a) → SlOk K mg G' H' s' o' T' → Sls K mg G' H' (ρ.set i s') (σ.set i o') (S1 ++ T' ++ S2))
    (hq : q ∈ T) (hp : H q = some o0) (hnt : NTb o0) (hnx : ∀ φ, o0 ≠ .ext φ) (hno : NTb o) (ok : SlOk K mg G (upd H q o) s' (some (.ref p)) T) : Stp K mg G H (S1 ++ T ++ S2) σ ρ G (upd H q o) (S1 ++ T ++ S2) σ (ρ.set i s') := by
  have nd := st.nd
  simp only [List.append_assoc, List.nodup_append, List.mem_append] at nd
  have ne : ∀ a ∈ S1 ++ S2, a ≠ q := fun a ha z => by
    subst z
    rcases List.mem_append.mp ha with h | h
    · exact nd.2.2 a h a (.inl hq) rfl
    · exact nd.2.1.2.2 a hq a h rfl
  have sl := set4 G (upd H q o) s' (some (.ref p)) T (Sub.refl _) (fun a ha => upd_ne (ne a ha)) ok
  rw [set_id hσ] at sl
  refine ⟨Sub.refl _, fun a u h _ n hs => ⟨n, by rw [upd_ne (fun z => hs (by simp [z, hq]))]; exact h⟩, fun a ha => .inl ha, fun a h => ?_, fun j t hj ht => ?_, ⟨fun a u h => ?_, sl, st.nd, st.out, st.gno, tabs_upd st.tab hp hnt hnx⟩⟩
  · by_cases z : a = q
    · subst z
      exact (nt_not h upd_same hno).elim
    · intro u e
      exact h u (by rw [upd_ne z]; exact e)
  · rcases set_get hj with ⟨rfl, rfl⟩ | hj
    · exact ⟨rfl, s, hi, hio ht⟩
    · exact ⟨rfl, t, hj, ht⟩
  · have z : a ≠ q := fun z => by
      have := st.out q (by simp [hq])
      rw [z, this] at h; cases h
    rw [upd_ne z]; exact st.sub a u h
end
abbrev kD (l c : Addr) (rest turn : Int) : List (Key × V) := [(.inr "large", .ref l), (.inr "rest", .int rest), (.inr "cells", .ref c), (.inr "turn", .int turn)]
/-- the number of draws that is left, the turn -/
def mRest (i : Nat) : M D := fun ρ => match ρ[i]? with | some (.drw _ _ _ r _) => .ok (.int r) ρ | _ => .bad
def mTurn (i : Nat) : M D := fun ρ => match ρ[i]? with | some (.drw _ _ _ _ t) => .ok (.int t) ρ | _ => .bad
def mCells (i : Nat) : M D := fun ρ => match ρ[i]? with | some (.drw _ _ c _ _) => .ok (.rol (c.map .int)) ρ | _ => .bad
def mLargeNe (i : Nat) : M Bool := fun ρ => match ρ[i]? with | some (.drw _ l _ _ _) => (match dNe (.lst (l.map .int)) (.lst []) with | some b => .ok b ρ | none => .bad) | _ => .bad
def mLargePop (i : Nat) : M D := fun ρ => match ρ[i]? with | some (.drw io (x :: l) c r t) => .ok (.int x) (ρ.set i (.drw io l c r t)) | _ => .bad
def sRest (i : Nat) (m : M D) : MS := fun ρ => (m ρ).fl fun d ρ' => match d, ρ'[i]? with | .int r, some (.drw io l c _ t) => .nx (ρ'.set i (.drw io l c r t)) | _, _ => .bad
def sTurn (i : Nat) (m : M D) : MS := fun ρ => (m ρ).fl fun d ρ' => match d, ρ'[i]? with | .int t, some (.drw io l c r _) => .nx (ρ'.set i (.drw io l c r t)) | _, _ => .bad
section
variable {X : Cx} {W : WX} {y : Str} {e : Expr} {m : M D} {p1 p2 p3 pos pos' apos cpos : Pos} {j1 j2 : Nat}
/-- a slot that holds the draws -/
theorem drw_at {K : PySem.W.Frag} {mg : Str → Option Value} {G H : Hp} {S : List Addr} {σ : Sg} {ρ : Env} {i : Nat} {io : Bool} {large cells : List Int} {rest turn : Int} (st : StOk K mg G H σ ρ S) (e : ρ[i]? = some (.drw io large cells rest turn)) :
    ∃ p l c, σ[i]? = some (some (.ref p)) ∧ H p = some (.dK (kD l c rest turn)) ∧ H l = some (.lst (large.map V.int)) ∧ SqL K G c (cells.map V.int) ∧
      (∀ r t, Stp K mg G H S σ ρ G (upd H p (.dK (kD l c r t))) S σ (ρ.set i (.drw io large cells r t))) ∧ ∀ large', Stp K mg G H S σ ρ G (upd H l (.lst (large'.map V.int))) S σ (ρ.set i (.drw io large' cells rest turn)) := by
  obtain ⟨o, S1, T, S2, h1, h2, h3, h4⟩ := st.sls.at e
  cases h3 with
  | @drw _ _ _ _ _ p l c hp hl hc =>
    subst h2
    have npl : p ≠ l := fun z => by rw [z, hl] at hp; cases hp
    refine ⟨p, l, c, h1, hp, hl, hc, fun r t => ?_, fun large' => ?_⟩
    · exact own_setT st e h1 (fun z => z) h4 (by simp) hp ntb_dK (fun _ h => nomatch h) ntb_dK (.drw upd_same (by rw [upd_ne (Ne.symm npl)]; exact hl) hc)
    · exact own_setT st e h1 (fun z => z) h4 (by simp) hl ntb_lst (fun _ h => nomatch h) ntb_lst (.drw (by rw [upd_ne npl]; exact hp) upd_same hc)
theorem de_rest (i : Nat) (hr : X.A.units + 1 < cLine) (hN : X.N[i]? = some y := by rfl) (hv : Vis X.env.scope y := by first | exact Or.inl rfl | exact Or.inr (Or.inl rfl) | exact Or.inr (Or.inr rfl)) (hd : (y == ("__debug__" : Str)) = false := by decide) (hcd : (y == ("__classdict__" : Str)) = false := by decide)
    (hs : NoSl (.Constant (.str "rest") j1 p2) := by exact fun _ _ => rfl) : DE X W (.Subscript (.Name y p1) (.Constant (.str "rest") j1 p2) pos) (mRest i) := by
  refine PEimp (pe_dget hr (pe_var hN hv hd hcd) pe_str hs) ?_
  rintro σ H Q ⟨G, ρ, S, st, p⟩
  unfold mRest at p
  split at p
  · rename_i e
    obtain ⟨q, l, c, h1, h2, h3, h4, _, _⟩ := drw_at st e
    exact ⟨_, h1, q, _, rfl, DGet.k (k := .inr "rest") h2, p G H S (Stp.refl st) _ (.int _)⟩
  · exact p.elim
theorem de_turn (i : Nat) (hr : X.A.units + 1 < cLine) (hN : X.N[i]? = some y := by rfl) (hv : Vis X.env.scope y := by first | exact Or.inl rfl | exact Or.inr (Or.inl rfl) | exact Or.inr (Or.inr rfl)) (hd : (y == ("__debug__" : Str)) = false := by decide) (hcd : (y == ("__classdict__" : Str)) = false := by decide)
    (hs : NoSl (.Constant (.str "turn") j1 p2) := by exact fun _ _ => rfl) : DE X W (.Subscript (.Name y p1) (.Constant (.str "turn") j1 p2) pos) (mTurn i) := by
  refine PEimp (pe_dget hr (pe_var hN hv hd hcd) pe_str hs) ?_
  rintro σ H Q ⟨G, ρ, S, st, p⟩
  unfold mTurn at p
  split at p
  · rename_i e
    obtain ⟨q, l, c, h1, h2, h3, h4, _, _⟩ := drw_at st e
    exact ⟨_, h1, q, _, rfl, DGet.k (k := .inr "turn") h2, p G H S (Stp.refl st) _ (.int _)⟩
  · exact p.elim
theorem de_cells (i : Nat) (hr : X.A.units + 1 < cLine) (hN : X.N[i]? = some y := by rfl) (hv : Vis X.env.scope y := by first | exact Or.inl rfl | exact Or.inr (Or.inl rfl) | exact Or.inr (Or.inr rfl)) (hd : (y == ("__debug__" : Str)) = false := by decide) (hcd : (y == ("__classdict__" : Str)) = false := by decide)
    (hs : NoSl (.Constant (.str "cells") j1 p2) := by exact fun _ _ => rfl) : DE X W (.Subscript (.Name y p1) (.Constant (.str "cells") j1 p2) pos) (mCells i) := by
  refine PEimp (pe_dget hr (pe_var hN hv hd hcd) pe_str hs) ?_
  rintro σ H Q ⟨G, ρ, S, st, p⟩
  unfold mCells at p
  split at p
  · rename_i e
    obtain ⟨q, l, c, h1, h2, h3, h4, _, _⟩ := drw_at st e
    exact ⟨_, h1, q, _, rfl, DGet.k (k := .inr "cells") h2, p G H S (Stp.refl st) _ (.rol h4 (repl_ints _))⟩
  · exact p.elim
theorem dt_largeNe (i : Nat) (hu : X.A.units + 64 < cLine) (hN : X.N[i]? = some y := by rfl) (hv : Vis X.env.scope y := by first | exact Or.inl rfl | exact Or.inr (Or.inl rfl) | exact Or.inr (Or.inr rfl)) (hd : (y == ("__debug__" : Str)) = false := by decide) (hcd : (y == ("__classdict__" : Str)) = false := by decide)
    (hs : NoSl (.Constant (.str "large") j1 p2) := by exact fun _ _ => rfl) (hm : behindInMarks .NotEq (.List [] p3) = false := by rfl) :
    DT X W (.Compare (.Subscript (.Name y p1) (.Constant (.str "large") j1 p2) pos) [.NotEq] [.List [] p3] pos') (mLargeNe i) := by
  refine PTimp (pt_cmpR (op_neP hu) (pe_dget (by omega) (pe_var hN hv hd hcd) pe_str hs) (pe_lst pa_nil) hm) ?_
  rintro σ H Q ⟨G, ρ, S, st, p⟩
  unfold mLargeNe at p
  split at p
  · rename_i e
    obtain ⟨q, l, c, h1, h2, h3, h4, _, _⟩ := drw_at st e
    refine ⟨_, h1, q, _, rfl, DGet.k (k := .inr "large") h2, by decide, fun a ha => ?_⟩
    split at p
    · rename_i b e2
      have h3' : upd H a (.lst []) l = some (.lst (_)) := (upd_ne (ne_of_none h3 ha)).trans h3
      have r1 : Rep X.K X.mg (upd H a (.lst [])) (.lst (_)) (.ref l) := .lst h3' (repl_ints _)
      have r2 : Rep X.K X.mg (upd H a (.lst [])) (.lst []) (.ref a) := .lst upd_same .nil
      unfold dNe at e2
      cases w : dEq (.lst (List.map D.int _)) (.lst []) with
      | none => rw [w] at e2; cases e2
      | some z =>
        rw [w] at e2; cases e2
        obtain ⟨d1, d2, e3, e4, s1, s2, rfl⟩ := dEq_some w
        have al := Al.newH (o := .lst []) st.sub ha
        exact ⟨d1, d2, r1.dp _ _ _ e3, r2.dp _ _ _ e4, s1, s2, _, rfl, p _ _ _ (al.stp st)⟩
    · exact p.elim
  · exact p.elim
theorem de_largePop (i : Nat) (hr : X.A.units + 1 < cLine) (hN : X.N[i]? = some y := by rfl) (hv : Vis X.env.scope y := by first | exact Or.inl rfl | exact Or.inr (Or.inl rfl) | exact Or.inr (Or.inr rfl)) (hd : (y == ("__debug__" : Str)) = false := by decide) (hcd : (y == ("__classdict__" : Str)) = false := by decide)
    (hs : NoSl (.Constant (.str "large") j1 p2) := by exact fun _ _ => rfl)
    (hbase : attributeBase (.Subscript (.Name y p1) (.Constant (.str "large") j1 p2) pos) "pop" X.env (eval (.Subscript (.Name y p1) (.Constant (.str "large") j1 p2) pos) X.env) = eval (.Subscript (.Name y p1) (.Constant (.str "large") j1 p2) pos) X.env := by rfl)
    (hfew : ((backTo cpos (starEach [.Constant (.int 0) j2 p3] X.env)).all (fun x => !x.1) && (backToKw cpos (keywordEach [] X.env)).all (fun x => x.1.isSome)
      && decide ([Expr.Constant (.int 0) j2 p3].length + ([] : List Keyword).length + (if ([] : List Keyword).isEmpty then 0 else 1) < 30)) = true := by rfl)
    (hline : (apos.endLine == cpos.line) = true := by rfl) (h1 : starEach [.Constant (.int 0) j2 p3] X.env = (false, eval (.Constant (.int 0) j2 p3) X.env) :: starEach [] X.env := by rfl) (hplain : (backTo cpos (starEach [] X.env)).any (·.1) = false := by rfl) :
    DE X W (.Call (.Attribute (.Subscript (.Name y p1) (.Constant (.str "large") j1 p2) pos) "pop" apos) [.Constant (.int 0) j2 p3] [] cpos) (mLargePop i) := by
  refine PEimp (pe_bm PySem.F.plainAttrs_list PySem.F.slot_list_pop PySem.F.type_list_pop mt_popAt (pe_dget hr (pe_var hN hv hd hcd) pe_str hs) (pa_cons pe_int pa_nil h1) hbase hfew hline h1 hplain) ?_
  rintro σ H Q ⟨G, ρ, S, st, p⟩
  unfold mLargePop at p
  split at p
  · rename_i io x large c r t e
    obtain ⟨q, l, c, g1, g2, g3, g4, _, g6⟩ := drw_at st e
    refine ⟨_, g1, q, _, rfl, DGet.k (k := .inr "large") g2, .inl ⟨rfl, _, .inl (.inl g3)⟩, l, _, 0, 0, .int x, rfl, rfl, g3, by decide, by decide, ?_, rfl, ?_⟩
    · simp [seqIndex?]
    · exact p _ _ _ (g6 large) _ (.int x)
  · exact p.elim
theorem ds_rest (i : Nat) (hr : X.A.units + 1 < cLine) (he : DE X W e m) (hN : X.N[i]? = some y := by rfl) (hv : Vis X.env.scope y := by first | exact Or.inl rfl | exact Or.inr (Or.inl rfl) | exact Or.inr (Or.inr rfl)) (hd : (y == ("__debug__" : Str)) = false := by decide)
    (hcd : (y == ("__classdict__" : Str)) = false := by decide) (hs : swapsWith e (some (.Subscript (.Name y p1) (.Constant (.str "rest") j1 p2) pos')) pos.line X.env = pure false := by rfl) :
    DS X W (.Assign [.Subscript (.Name y p1) (.Constant (.str "rest") j1 p2) pos'] e pos) (sRest i m) := by
  refine PSimp (ps_dput hr (pe_var hN hv hd hcd) pe_str he hs) ?_
  rintro E σ H ⟨G, ρ, S, st, p⟩
  refine ⟨G, ρ, S, st, (PostO.fl p).imp fun d ρ1 G1 H1 S1 _ ⟨t1, p1⟩ v r => ?_⟩
  cases r with
  | int k =>
    cases e1 : ρ1[i]? with
    | none => rw [e1] at p1; exact p1.elim
    | some s1 =>
      rw [e1] at p1
      cases s1 with
      | drw io0 l0 c0 r0 t0 =>
        obtain ⟨q, l, c, g1, g2, g3, g4, g5, _⟩ := drw_at t1.st e1
        exact ⟨_, g1, q, _, rfl, DPut.k (k := .inr "rest") g2 (by show 4 < sizeLine; decide), p1 _ _ _ _ (g5 _ _)⟩
      | _ => exact p1.elim
  | _ => exact p1.elim
theorem ds_turn (i : Nat) (hr : X.A.units + 1 < cLine) (he : DE X W e m) (hN : X.N[i]? = some y := by rfl) (hv : Vis X.env.scope y := by first | exact Or.inl rfl | exact Or.inr (Or.inl rfl) | exact Or.inr (Or.inr rfl)) (hd : (y == ("__debug__" : Str)) = false := by decide)
    (hcd : (y == ("__classdict__" : Str)) = false := by decide) (hs : swapsWith e (some (.Subscript (.Name y p1) (.Constant (.str "turn") j1 p2) pos')) pos.line X.env = pure false := by rfl) :
    DS X W (.Assign [.Subscript (.Name y p1) (.Constant (.str "turn") j1 p2) pos'] e pos) (sTurn i m) := by
  refine PSimp (ps_dput hr (pe_var hN hv hd hcd) pe_str he hs) ?_
  rintro E σ H ⟨G, ρ, S, st, p⟩
  refine ⟨G, ρ, S, st, (PostO.fl p).imp fun d ρ1 G1 H1 S1 _ ⟨t1, p1⟩ v r => ?_⟩
  cases r with
  | int k =>
    cases e1 : ρ1[i]? with
    | none => rw [e1] at p1; exact p1.elim
    | some s1 =>
      rw [e1] at p1
      cases s1 with
      | drw io0 l0 c0 r0 t0 =>
        obtain ⟨q, l, c, g1, g2, g3, g4, g5, _⟩ := drw_at t1.st e1
        exact ⟨_, g1, q, _, rfl, DPut.k (k := .inr "turn") g2 (by show 4 < sizeLine; decide), p1 _ _ _ _ (g5 _ _)⟩
      | _ => exact p1.elim
  | _ => exact p1.elim
end
end FW

set_option Elab.async false
set_option linter.all false
set_option maxRecDepth 100000
set_option maxHeartbeats 400000
/-! FW18: several names at once, own things among what they get. -/
namespace FW
open PySem PySem.Spec L2
open PyProof.Rows (envOfC)
variable [Tc]
section
variable {K : PySem.W.Frag} {mg : Str → Option Value} {G H G0 H0 : Hp} {S S0 : List Addr} {σ σ0 : Sg} {ρ ρ0 ρ' : Env}
/-- as set_stp; the slots' addresses told -/
theorem set_stpT {i : Nat} {s : Sl} {v : V} {T : List Addr} (st : Stp K mg G0 H0 S0 σ0 ρ0 G H S σ ρ) (e : put ρ i s = some ρ') (hio : s.io = false) (ok : SlOk K mg G H s (some v) T) (hT : ∀ a ∈ T, Nt H0 a ∧ a ∉ S ∧ G a = none) (nd : T.Nodup) :
    ∃ S', (∀ a ∈ S', a ∈ S ∨ a ∈ T) ∧ Stp K mg G0 H0 S0 σ0 ρ0 G H S' (σ.set i (some v)) ρ' := by
  unfold put at e
  split at e
  · rename_i hi
    cases e
    obtain ⟨ov, S1, T1, S2, h1, h2, h3, h4⟩ := st.st.sls.at (List.getElem?_eq_getElem hi)
    have q := h4 G H s (some v) T (Sub.refl _) (fun _ _ => rfl) ok
    subst h2
    have nd0 := st.st.nd
    refine ⟨S1 ++ T ++ S2, fun a ha => ?_, st.sub, st.keep, fun a ha => ?_, st.trk, fun j s' hj hs' => ?_, ⟨st.st.sub, q, ?_, fun a ha => ?_, st.st.gno, st.st.tab⟩⟩
    · simp only [List.mem_append] at ha ⊢
      rcases ha with (ha | ha) | ha <;> simp [ha]
    · simp only [List.mem_append] at ha
      rcases ha with (ha | ha) | ha
      · exact st.own a (by simp [ha])
      · exact .inr (hT a ha).1
      · exact st.own a (by simp [ha])
    · rcases set_get hj with ⟨rfl, rfl⟩ | hj'
      · rw [hio] at hs'; cases hs'
      · by_cases z : i = j
        · subst z
          rw [List.getElem?_set_self hi] at hj
          cases hj
          rw [hio] at hs'; cases hs'
        · rw [List.getElem?_set_ne z]
          exact st.back j s' hj' hs'
    · simp only [List.append_assoc, List.nodup_append, List.mem_append] at nd0 ⊢
      refine ⟨nd0.1, ⟨nd, nd0.2.1.2.1, fun a ha b hb z => ?_⟩, fun a ha b hb => ?_⟩
      · subst z
        exact (hT a ha).2.1 (by simp [hb])
      · rcases hb with hb | hb
        · intro z; subst z
          exact (hT a hb).2.1 (by simp [ha])
        · exact nd0.2.2 a ha b (.inr hb)
    · simp only [List.mem_append] at ha
      rcases ha with (ha | ha) | ha
      · exact st.st.out a (by simp [ha])
      · exact (hT a ha).2.2
      · exact st.st.out a (by simp [ha])
  · cases e
def putAll : List Nat → List Sl → Env → Option Env
  | i :: is, s :: ss, ρ => (put ρ i s).bind (putAll is ss)
  | [], [], ρ => some ρ
  | _, _, _ => none
def setAll : List Nat → List V → Sg → Sg
  | i :: is, v :: vs, σ => setAll is vs (σ.set i (some v))
  | _, _, σ => σ
theorem puts_stp : ∀ {is : List Nat} {ss : List Sl} {vs : List V} {T S : List Addr} {σ : Sg} {ρ : Env}, Stp K mg G0 H0 S0 σ0 ρ0 G H S σ ρ → Sls K mg G H ss (vs.map some) T → (∀ s ∈ ss, s.io = false) → (∀ a ∈ T, Nt H0 a ∧ a ∉ S ∧ G a = none) → T.Nodup →
    putAll is ss ρ = some ρ' → ∃ S', Stp K mg G0 H0 S0 σ0 ρ0 G H S' (setAll is vs σ) ρ'
  | [], [], vs, T, S, σ, ρ, st, sl, _, _, _, e => by
    cases e
    exact ⟨S, by unfold setAll; exact st⟩
  | i :: is, [], _, _, _, _, _, _, _, _, _, _, e => by cases e
  | [], s :: ss, _, _, _, _, _, _, _, _, _, _, e => by cases e
  | i :: is, s :: ss, [], _, _, _, _, _, sl, _, _, _, _ => by cases sl
  | i :: is, s :: ss, v :: vs, T, S, σ, ρ, st, sl, hio, hT, nd, e => by
    cases sl with
    | @cons _ _ _ _ T1 T2 a b =>
      have nd' := List.nodup_append.mp nd
      have e : (put ρ i s).bind (putAll is ss) = some ρ' := e
      cases w : put ρ i s with
      | none => rw [w] at e; cases e
      | some ρ1 =>
        rw [w] at e
        obtain ⟨S1, hS1, t1⟩ := set_stpT st w (hio s (by simp)) a (fun x hx => hT x (by simp [hx])) nd'.1
        refine puts_stp (σ := σ.set i (some v)) t1 b (fun s hs => hio s (by simp [hs])) (fun x hx => ⟨(hT x (by simp [hx])).1, fun z => ?_, (hT x (by simp [hx])).2.2⟩) nd'.2.1 e
        rcases hS1 x z with z | z
        · exact (hT x (by simp [hx])).2.1 z
        · exact nd'.2.2 x z x hx rfl
end
/-- fresh own things, data among them -/
def rdXs (K : PySem.W.Frag) (mg : Str → Option Value) (W : WX) (m : M (List Sl)) : TA := fun σ H Q => ∃ G ρ S, StOk K mg G H σ ρ S ∧ PostO K mg W G H S σ ρ (m ρ) fun ss _ G' H' S' =>
  ∀ vs T, (∀ s ∈ ss, s.io = false) → Sls K mg G' H' ss (vs.map some) T → (∀ a ∈ T, Nt H a ∧ a ∉ S' ∧ G' a = none) → T.Nodup → Q vs H'
abbrev DXs (X : Cx) (W : WX) (es : List Expr) (m : M (List Sl)) : Prop := PA X es (rdXs X.K X.mg W m)
def mConsD (m : M D) (n : M (List Sl)) : M (List Sl) := mBind m fun d => mBind n fun ss => mPure (.dat d :: ss)
def mConsX (m : M Sl) (n : M (List Sl)) : M (List Sl) := mBind m fun s => mBind n fun ss => mOpt (if s.io then none else some (s :: ss))
section
variable {X : Cx} {W : WX} {e : Expr} {es : List Expr} {n : M (List Sl)}
theorem dxs_nil : DXs X W [] (mPure []) := PAimp pa_nil fun _ _ _ ⟨_, _, _, st, p⟩ => p _ _ _ (Stp.refl st) [] [] (by simp) .nil (by simp) (by simp)
theorem dxs_d {m : M D} (h : DE X W e m) (t : DXs X W es n) (hs : starEach (e :: es) X.env = (false, eval e X.env) :: starEach es X.env := by rfl) : DXs X W (e :: es) (mConsD m n) := by
  refine PAimp (pa_cons h t hs) ?_
  rintro σ H Q ⟨G, ρ, S, st, p⟩
  refine ⟨G, ρ, S, st, (PostO.bind p).imp fun d ρ1 G1 H1 S1 _ ⟨t1, p1⟩ v r => ⟨G1, ρ1, S1, t1.st, (PostO.bind p1).imp fun ss ρ2 G2 H2 S2 _ ⟨t2, p2⟩ vs T hio sl hT nd => ?_⟩⟩
  refine p2 _ _ _ (Stp.refl t2.st) (v :: vs) T (fun s hs => ?_) (Sls.cons (T := []) (.dat (r.sub t2.sub)) sl) (fun a ha => ?_) nd
  · rcases List.mem_cons.mp hs with rfl | hs
    · rfl
    · exact hio s hs
  · exact ⟨t1.trk a (hT a ha).1, (hT a ha).2⟩
theorem dxs_x {m : M Sl} (h : DX X W e m) (t : DXs X W es n) (hs : starEach (e :: es) X.env = (false, eval e X.env) :: starEach es X.env := by rfl) : DXs X W (e :: es) (mConsX m n) := by
  refine PAimp (pa_cons h t hs) ?_
  rintro σ H Q ⟨G, ρ, S, st, p⟩
  refine ⟨G, ρ, S, st, (PostO.bind0 p).imp fun s ρ1 G1 H1 S1 _ ⟨t1, p1⟩ v T1 hio1 ok1 hT1 nd1 => ⟨G1, ρ1, S1, t1.st, ?_⟩⟩
  have p1 := PostO.from t1 p1
  refine (PostO.bind p1).imp fun ss ρ2 G2 H2 S2 t12 ⟨t2, p2⟩ vs T hio sl hT nd => ?_
  obtain ⟨a, e1, p3⟩ := PostO.opt p2
  rw [hio1] at e1
  cases e1
  have kp : ∀ a ∈ T1, G2 a = none ∧ H2 a = H1 a ∧ ∃ o, H1 a = some o ∧ NTb o := fun a ha => by
    obtain ⟨o, h1, h2⟩ := ok1.tracked a ha
    obtain ⟨q1, q2⟩ := t12.keep a o h1 h2 (hT1 a ha).2.2 (hT1 a ha).2.1
    exact ⟨q1, q2.trans h1.symm, o, h1, h2⟩
  refine p3 _ _ _ (Stp.refl t2.st) (v :: vs) (T1 ++ T) (fun s hs => ?_) (Sls.cons (ok1.mono t2.sub fun a ha => (kp a ha).2.1) sl) (fun a ha => ?_) ?_
  · rcases List.mem_cons.mp hs with rfl | hs
    · exact hio1
    · exact hio s hs
  · rcases List.mem_append.mp ha with ha | ha
    · refine ⟨(hT1 a ha).1, fun z => ?_, (kp a ha).1⟩
      rcases t2.own a z with z | z
      · exact (hT1 a ha).2.1 z
      · obtain ⟨o, h1, h2⟩ := (kp a ha).2.2
        exact nt_not z h1 h2
    · exact ⟨t1.trk a (hT a ha).1, (hT a ha).2⟩
  · refine List.nodup_append.mpr ⟨nd1, nd, fun a ha b hb z => ?_⟩
    subst z
    obtain ⟨o, h1, h2⟩ := (kp a ha).2.2
    exact nt_not (hT a hb).1 h1 h2
def sPar (is : List Nat) (m : M (List Sl)) : MS := fun ρ => (m ρ).fl fun ss ρ' => match putAll is ss ρ' with | some ρ'' => .nx ρ'' | none => .bad
theorem putAll_len : ∀ {is : List Nat} {ss : List Sl} {ρ ρ' : Env}, putAll is ss ρ = some ρ' → ss.length = is.length
  | [], [], _, _, _ => rfl
  | i :: is, [], _, _, e => by cases e
  | [], s :: ss, _, _, e => by cases e
  | i :: is, s :: ss, ρ, ρ', e => by
    have e : (put ρ i s).bind (putAll is ss) = some ρ' := e
    cases w : put ρ i s with
    | none => rw [w] at e; cases e
    | some ρ1 => rw [w] at e; simp [putAll_len (show putAll is ss ρ1 = some ρ' from e)]
theorem par_read {K : PySem.W.Frag} {mg : Str → Option Value} {m : M (List Sl)} {is : List Nat} {E : Ends} {σ : Sg} {H : Hp} (h : rdS K mg W (sPar is m) E σ H) : rdXs K mg W m σ H fun vs H1 => vs.length = is.length ∧ E.nx (setAll is vs σ) H1 := by
  obtain ⟨G, ρ, S, st, p⟩ := h
  refine ⟨G, ρ, S, st, (PostO.fl0 p).imp fun ss ρ1 G1 H1 S1 _ ⟨t1, p1⟩ vs T hio sl hT nd => ?_⟩
  cases w : putAll is ss ρ1 with
  | none => rw [w] at p1; exact p1.elim
  | some ρ2 =>
    rw [w] at p1
    obtain ⟨S', t⟩ := puts_stp t1 sl hio hT nd w
    refine ⟨?_, p1 _ _ _ _ t⟩
    rw [← putAll_len w, sl.length, List.length_map]
theorem ds_par2 (i j : Nat) {x y : Str} {a b : Expr} {m : M (List Sl)} {px py pt pos : Pos} {kt k2 : Nat} {pt2 : Pos} (ha : DXs X W [a, b] m) (hc : X.calm = true) (hN : X.N.Nodup) (hi : X.N[i]? = some x := by rfl) (hj : X.N[j]? = some y := by rfl) (hij : i ≠ j := by decide)
    (hx : X.env.scope.names.lookup x = some .local := by rfl) (hy : X.env.scope.names.lookup y = some .local := by rfl)
    (hw : swappedStores [.Tuple [.Name x px, .Name y py] kt pt] (.Tuple [a, b] k2 pt2) X.env = pure (some [x, y]) := by rfl)
    (hs : swapsWithSole [.Tuple [.Name x px, .Name y py] kt pt] (.Tuple [a, b] k2 pt2) pos.line X.env = pure false := by rfl) :
    DS X W (.Assign [.Tuple [.Name x px, .Name y py] kt pt] (.Tuple [a, b] k2 pt2) pos) (sPar [i, j] m) := by
  refine PSimp (ps_par hc hN hi hj hij hx hy ha hw hs) ?_
  rintro E σ H h
  obtain ⟨G, ρ, S, st, p⟩ := par_read h
  refine ⟨G, ρ, S, st, p.imp fun ss ρ1 G1 H1 S1 _ p1 vs T hio sl hT nd => ?_⟩
  obtain ⟨hl, q⟩ := p1 vs T hio sl hT nd
  match vs, hl, q with
  | [v, w], _, q => exact ⟨v, w, rfl, q⟩
theorem ds_par3 (i j l : Nat) {x y z : Str} {a b c : Expr} {m : M (List Sl)} {px py pz pt pos : Pos} {kt k2 : Nat} {pt2 : Pos} (ha : DXs X W [a, b, c] m) (hc : X.calm = true) (hN : X.N.Nodup) (hi : X.N[i]? = some x := by rfl) (hj : X.N[j]? = some y := by rfl) (hl : X.N[l]? = some z := by rfl)
    (hij : i ≠ j := by decide) (hil : i ≠ l := by decide) (hjl : j ≠ l := by decide) (hx : X.env.scope.names.lookup x = some .local := by rfl) (hy : X.env.scope.names.lookup y = some .local := by rfl) (hz : X.env.scope.names.lookup z = some .local := by rfl)
    (hw : swappedStores [.Tuple [.Name x px, .Name y py, .Name z pz] kt pt] (.Tuple [a, b, c] k2 pt2) X.env = pure (some [x, y, z]) := by rfl)
    (hs : swapsWithSole [.Tuple [.Name x px, .Name y py, .Name z pz] kt pt] (.Tuple [a, b, c] k2 pt2) pos.line X.env = pure false := by rfl) :
    DS X W (.Assign [.Tuple [.Name x px, .Name y py, .Name z pz] kt pt] (.Tuple [a, b, c] k2 pt2) pos) (sPar [i, j, l] m) := by
  refine PSimp (ps_par3 hc hN hi hj hl hij hil hjl hx hy hz ha hw hs) ?_
  rintro E σ H h
  obtain ⟨G, ρ, S, st, p⟩ := par_read h
  refine ⟨G, ρ, S, st, p.imp fun ss ρ1 G1 H1 S1 _ p1 vs T hio sl hT nd => ?_⟩
  obtain ⟨hl, q⟩ := p1 vs T hio sl hT nd
  match vs, hl, q with
  | [v, w, u], _, q => exact ⟨v, w, u, rfl, q⟩
end
end FW

set_option Elab.async false
set_option linter.all false
set_option maxRecDepth 100000
set_option maxHeartbeats 400000
/-! FW19: defs that give a fresh own thing; the def that begins the draws. -/
namespace FW
open PySem PySem.Spec L2
open PyProof.Rows (envOfC)
variable [Tc]
/-- as spF, the result a fresh own thing -/
def spX (K : PySem.W.Frag) (mg : Str → Option Value) (n : Nat) (F : M Sl) : Sp := fun vs H Q E => vs.length = n ∧ ∃ G ss S, StOk K mg G H (vs.map some) ss S ∧
  PostO K mg (WEx E) G H S (vs.map some) ss (F ss) fun s _ G' H' S' => ∀ v T, s.io = false → SlOk K mg G' H' s (some v) T → (∀ a ∈ T, Nt H a ∧ a ∉ S' ∧ G' a = none) → T.Nodup → Q v H'
structure CalX (P : Program) (w : World) (K : PySem.W.Frag) (mg : Str → Option Value) (base : Heap) (x : Str) (pr : Arguments) (k : Nat) (ps : List Str) (F : M Sl) : Prop where
  ex : ∃ (f : Addr) (fd : FuncData) (body : List Stmt) (sc : Scope) (q : Str), FunD K x q pr body sc [] [] f fd ∧ FnOk P w K mg base (L2.CX P w) k f fd ps (spX K mg ps.length F) ∧ mg x = some (.ref f)
def mCallX (n : Nat) (F : M Sl) (ma : M (List D)) : M Sl := mBind ma fun ds ρ => if ds.length = n then (match F (dats ds) with | .ok d _ => .ok d ρ | .err n fs _ => .err n fs ρ | .bad => .bad) else .bad
section
variable {X : Cx} {W : WX} {k : Nat} {ps : List Str} {F : M Sl} {x : Str} {pr : Arguments} {e : Expr} {es : List Expr} {ma : M (List D)} {p pos : Pos}
theorem dxc (j : Nat) (C : CalX X.prog X.w X.K X.mg X.base x pr j ps F) (hb : BindsN x pr ps) (hr : Room k X.A) (tk : Takes X W) (ha : DA X W (e :: es) ma) (hj : j ≤ k := by decide) (hg : Gl X x := by rfl) (hdb : (x == ("__debug__" : Str)) = false := by decide)
    (he : starEach (e :: es) X.env = (false, eval e X.env) :: starEach es X.env := by rfl) (hpl : (backTo pos (starEach es X.env)).any (·.1) = false := by rfl) : DX X W (.Call (.Name x p) (e :: es) [] pos) (mCallX ps.length F ma) := by
  obtain ⟨f, fd, body, sc, q, FD, FO, hm⟩ := C.ex
  refine PEimp (pe_callS FO (hr.mono hj) hg hm FD.kp (FD.bindsN fun kV doc pm an cdv ct us hl => hb q body sc kV doc pm an cdv ct us hl) (fun σ => passAt tk σ) ha hdb he hpl) ?_
  rintro σ H Q ⟨G, ρ, S, st, p⟩
  refine ⟨G, ρ, S, st, (PostO.bind p).imp fun ds ρ1 G1 H1 S1 _ ⟨t1, p1⟩ vs rs => ?_⟩
  split at p1
  · rename_i hn
    refine ⟨by rw [← rs.length]; exact hn, G1, dats ds, [], ⟨t1.st.sub, sls_dats rs, by simp, by simp, t1.st.gno, t1.st.tab⟩, ?_⟩
    cases q : F (dats ds) with
    | ok d ρ' =>
      rw [q] at p1
      refine fun G' H' S' t v T hio ok hT nd => p1 _ _ _ (call_stp t1.st t) v T hio ok (fun a ha => ⟨t1.trk a (hT a ha).1, fun z => ?_, (hT a ha).2.2⟩) nd
      exact t1.st.sls.notNt z (hT a ha).1
    | err m fs ρ' =>
      rw [q] at p1
      exact fun G' H' S' c dd t er => p1 _ _ _ c dd (call_stp t1.st t) er
    | bad => rw [q] at p1; exact p1.elim
  · exact p1.elim
end
section
variable {K : PySem.W.Frag} {mg : Str → Option Value} {G H G1 H1 : Hp} {S S1 : List Addr} {σ σ1 : Sg} {ρ ρ1 : Env} {p : Addr} {o o0 : HO}
/-- a new thing that no slot owns and that is not known changes -/
theorem upd_stp (t : Stp K mg G H S σ ρ G1 H1 S1 σ1 ρ1) (hn : Nt H p) (hs : p ∉ S1) (hg : G1 p = none) (h1 : H1 p = some o0) (n0 : NTb o0) (nx : ∀ φ, o0 ≠ .ext φ) (no : NTb o) : Stp K mg G H S σ ρ G1 (upd H1 p o) S1 σ1 ρ1 where
  sub := t.sub
  keep := fun a u h nt n ns => by
    obtain ⟨q1, q2⟩ := t.keep a u h nt n ns
    refine ⟨q1, ?_⟩
    have z : a ≠ p := fun z => by
      rw [z] at h
      exact nt_not hn h nt
    rw [upd_ne z]; exact q2
  own := t.own
  trk := fun a h => by
    by_cases z : a = p
    · subst z; exact (nt_not h upd_same no).elim
    · exact t.trk a fun u e => h u (by rw [upd_ne z]; exact e)
  back := t.back
  st := ⟨fun a u h => by
    have z : a ≠ p := fun z => by rw [z, hg] at h; cases h
    rw [upd_ne z]; exact t.st.sub a u h, t.st.sls.mono (Sub.refl _) fun a ha => upd_ne fun z => hs (z ▸ ha), t.st.nd, t.st.out, t.st.gno, tabs_upd t.st.tab h1 n0 nx⟩
end
/-! ### the draws begin -/
def intsD : List D → Option (List Int) | [] => some [] | .int i :: ds => (intsD ds).map (i :: ·) | _ => none
theorem intsD_map : ∀ ns : List Int, intsD (ns.map .int) = some ns
  | [] => rfl
  | n :: ns => by simp [intsD, intsD_map ns]
theorem intsD_some : ∀ {ds : List D} {ns : List Int}, intsD ds = some ns → ds = ns.map .int
  | [], _, e => by cases e; rfl
  | .int i :: ds, ns, e => by
    simp only [intsD] at e
    obtain ⟨ms, h, rfl⟩ := Option.map_eq_some_iff.mp e
    rw [intsD_some h]; rfl
  | .non :: _, _, e => by cases e
  | .bl _ :: _, _, e => by cases e
  | .str _ :: _, _, e => by cases e
  | .lst _ :: _, _, e => by cases e
  | .tup _ :: _, _, e => by cases e
  | .rol _ :: _, _, e => by cases e
  | .dK _ :: _, _, e => by cases e
  | .exc _ _ :: _, _, e => by cases e
  | .cls _ :: _, _, e => by cases e
def absI (i : Int) : Int := if i < 0 then -i else i
def largeOf (ns : List Int) : List Int := (ns.filter fun i => decide (10 ^ 18 ≤ absI i)).map fun i => absI i - 10 ^ 18
def cellsOf (ns : List Int) : List Int := ns.map absI
def mBegun : M Sl := fun ss => match ss with
  | [.dat (.rol ds)] => (match intsD ds with | some ns => if decide (ns.length ≤ sizeLine) then .ok (.drw false (largeOf ns) (cellsOf ns) 0 0) ss else .bad | none => .bad)
  | _ => .bad
theorem repl_ints_eq {K : PySem.W.Frag} {mg : Str → Option Value} {G : Hp} : ∀ {ns : List Int} {vs : List V}, RepL K mg G (ns.map .int) vs → vs = ns.map V.int
  | [], _, .nil => rfl
  | n :: ns, _, .cons a b => by cases a; rw [repl_ints_eq b]; rfl
theorem begun_mk {P : Program} {w : World} {K : PySem.W.Frag} {mg : Str → Option Value} {base : Heap} {x q y : Str} {pr : Arguments} {sc : Scope} {f : Addr} {fd : FuncData} {N ps : List Str} {k : Nat} {m1 m2 : M Sl} {lc1 lc2 : Expr} {p1 p2 p3 p4 p5 p6 p7 p8 pos1 dpos rpos : Pos} {j1 j2 j3 j4 j5 j6 : Nat}
    (F : FunD K x q pr [.Assign [.Name y p1] lc1 pos1, .Return (some (.Dict [some (.Constant (.str "large") j1 p2), some (.Constant (.str "rest") j2 p3), some (.Constant (.str "cells") j3 p4), some (.Constant (.str "turn") j4 p5)] [.Name y p6, .Constant (.int 0) j5 p7, lc2, .Constant (.int 0) j6 p8] dpos)) rpos] sc [] [] f fd)
    (hg : mg x = some (.ref f)) (S : FnScope N ps sc) (hps : ps.length = 1) (hNl : N.length = 3) (hNy : N[1]? = some y) (hvy : Vis sc y) (hdy : (y == ("__debug__" : Str)) = false) (hcy : (y == ("__classdict__" : Str)) = false)
    (h1 : ∀ (cdv : Value) (A : Around) (outer : List PySem.Env) (s : Shared) (H : Hp) (E : XK), Room k (A.deeper (envOfC q sc s.heap.objs.size f cdv)) → DS (cxOf (L2.CX P w) P w K mg base N q sc f cdv A outer s H E) (WEx E) (.Assign [.Name y p1] lc1 pos1) (sSetX 1 m1))
    (h2 : ∀ (cdv : Value) (A : Around) (outer : List PySem.Env) (s : Shared) (H : Hp) (E : XK), Room k (A.deeper (envOfC q sc s.heap.objs.size f cdv)) → DX (cxOf (L2.CX P w) P w K mg base N q sc f cdv A outer s H E) (WEx E) lc2 m2)
    (v1 : ∀ ns : List Int, ns.length ≤ sizeLine → sSetX 1 m1 [.dat (.rol (ns.map .int)), .un, .un] = .nx [.dat (.rol (ns.map .int)), .lst false ((largeOf ns).map .int), .un])
    (v2 : ∀ (ns : List Int) (s : Sl), ns.length ≤ sizeLine → m2 [.dat (.rol (ns.map .int)), s, .un] = .ok (.lst false ((cellsOf ns).map .int)) [.dat (.rol (ns.map .int)), s, .un]) :
    CalX P w K mg base x pr (k + 1) ps mBegun := by
  obtain ⟨oc, od, dV, kV, doc, pm, an, cdv, ct, osl, efd, lk, hcd, _, _⟩ := F.ex
  subst efd
  refine ⟨f, _, _, sc, q, F, fn_of lk hcd S (fun vs H Q E h => h.1) fun A outer s H vs Q E hr h => ?_, hg⟩
  refine ⟨_, pss_cons (h1 cdv A outer s H E hr) (pss_one (ps_ret (pe_disp (pps_cons pe_str (pe_var hNy hvy hdy hcy) (pps_cons pe_str pe_int (pps_cons pe_str (h2 cdv A outer s H E hr) (pps_cons pe_str pe_int pps_nil)))) rfl rfl (by simp) (by simp)))), ?_⟩
  obtain ⟨hl, G, ss, S0, st0, p⟩ := h
  rw [hps] at hl
  unfold mBegun at p
  split at p
  · rename_i ds
    cases ei : intsD ds with
    | none => rw [ei] at p; exact p.elim
    | some ns =>
      rw [ei] at p
      simp only at p
      split at p
      · rename_i hz
        have hz : ns.length ≤ sizeLine := of_decide_eq_true hz
        have hd := intsD_some ei
        subst hd
        match vs, hl, st0, p with
        | [v0], _, st0, p =>
          have hS0 : S0 = [] := by
            have sl := st0.sls
            cases sl with
            | cons a b => cases a; cases b; rfl
          subst hS0
          have e0 : L2.start N [v0] = [some v0, none, none] := by
            unfold L2.start
            rw [hNl] <;> rfl
          rw [e0]
          have st1 : StOk K mg G H [some v0, none, none] [.dat (.rol (ns.map .int)), .un, .un] [] := ⟨st0.sub, st0.sls.pad 2, st0.nd, st0.out, st0.gno, st0.tab⟩
          refine ⟨G, _, [], st1, ?_⟩
          rw [v1 ns hz]
          intro G1 H1 S1 σ1 t1
          show tDisp _ σ1 H1 Q
          intro dp hdp
          have at1 := t1.st.sls.at (i := 1) (s := .lst false ((largeOf ns).map .int)) rfl
          obtain ⟨ov, Sa, T, Sb, g1, g2, g3, g4⟩ := at1
          cases g3 with
          | @lst _ _ l vs1 hl1 rl1 =>
            have al := Al.newH (o := .dK []) t1.st.sub hdp
            have tA := al.stp t1.st
            refine ⟨_, g1, G1, _, S1, tA.st, ?_⟩
            rw [v2 ns _ hz]
            intro G2 H2 S2 t2 vc T2 hio2 ok2 hT2 nd2
            cases ok2 with
            | @lst _ _ c vs2 hc2 rl2 =>
              have ndp : Nt H1 dp := nt_none hdp
              have np1 : dp ∉ S1 := fun z => t1.st.sls.notNt z ndp
              have gp1 : G1 dp = none := t1.st.sub.ne hdp
              obtain ⟨gp2, hp2⟩ := t2.keep dp _ upd_same ntb_dK gp1 np1
              have np2 : dp ∉ S2 := fun z => by
                rcases t2.own dp z with z | z
                · exact np1 z
                · exact nt_not z upd_same ntb_dK
              refine ⟨hp2, [(.inr "large", .ref l), (.inr "rest", .int 0), (.inr "cells", .ref c), (.inr "turn", .int 0)], rfl, by simp, ?_⟩
              obtain ⟨s23, t3⟩ := know t2 hc2 (hT2 c (by simp))
              have npc : dp ≠ c := fun z => by
                rw [← z] at hT2
                exact nt_not (hT2 dp (by simp)).1 upd_same ntb_dK
              have t4 := t1.trans (tA.trans t3)
              have ndpH : Nt H dp := t1.trk dp ndp
              have gp3 : upd G2 c (.lst vs2) dp = none := by rw [upd_ne npc]; exact gp2
              have t5 := upd_stp (o := .dK (kD l c 0 0)) t4 ndpH np2 gp3 hp2 ntb_dK (fun _ h => nomatch h) ntb_dK
              obtain ⟨S3, t6⟩ := exit_stp (k := 2) st0 t5 (μ := [.dat (.rol (ns.map .int))]) (by rfl)
              have hS3 : S3 = [] := by
                have sl := t6.st.sls
                cases sl with
                | cons a b => cases a; cases b; rfl
              subst hS3
              -- the large list, as it is now
              have at5 := t5.st.sls.at (i := 1) (s := .lst false ((largeOf ns).map .int)) rfl
              obtain ⟨ov5, Sc, T5, Sd, k1, k2, k3, k4⟩ := at5
              rw [g1] at k1
              cases k1
              cases k3 with
              | @lst _ _ _ vs5 hl5 rl5 =>
                have hlS : l ∈ S2 := by rw [k2]; simp
                have e5 : vs5 = (largeOf ns).map V.int := repl_ints_eq rl5
                have e6 : vs2 = (cellsOf ns).map V.int := repl_ints_eq rl2
                refine p _ _ _ t6 (.ref dp) [dp, l] rfl (.drw upd_same (e5 ▸ hl5) ?_) (fun a ha => ?_) ?_
                · refine .inl (.inl ?_)
                  rw [e6, upd_same]
                · simp at ha
                  rcases ha with rfl | rfl
                  · exact ⟨ndpH, by simp, gp3⟩
                  · refine ⟨?_, by simp, t5.st.out a hlS⟩
                    rcases t5.own a hlS with z | z
                    · cases z
                    · exact z
                · simp
                  intro z
                  exact np2 (z ▸ hlS)
      · exact p.elim
  · exact p.elim
end FW

set_option Elab.async false
set_option linter.all false
set_option maxRecDepth 100000
set_option maxHeartbeats 400000
/-! FW20: defs that are run with no repr under way (for repr of tuples and lists); a law's end for such a law. -/
namespace FW
open PySem PySem.Spec L2
open PyProof.Rows (envOfC IntsAre AllBare)
/-- as FnOk, run where no repr is under way -/
structure FnG (P : Program) (w : World) (K : PySem.W.Frag) (mg : Str → Option Value) (base : Heap) (CX : CXT) (k : Nat) (f : Addr) (fd : FuncData) (ps : List Str) (sp : Sp) : Prop where
  size : ∀ vs H Q E, sp vs H Q E → vs.length = ps.length
  run : ∀ (A : Around) (outer : List PySem.Env) (s : Shared) (H : Hp) (args : Args) (us : List Value) (vs : List V) (Q : VK) (E : XK), A.guards = some [] → Room k A → Env0 P w K mg base A outer s H → BindsTo s fd args (ps.zip us) → Vals vs us → sp vs H Q E →
    codeAny (model P w) A (.call (.ref f) args) (CR CX outer P w H s Q E) s
section
variable {P : Program} {w : World} {K : PySem.W.Frag} {mg mb : Str → Option Value} {cs : List (Addr × Addr)} {s₁ : Shared} {a : Addr} {vs : List Value} {ns : List Int}
/-- the abstract heap that a law starts at: the tables, and the script where the top hasn't written it -/
def lawH (K : PySem.W.Frag) (cs : List (Addr × Addr)) (a : Addr) (scr : Obj) (xs : List V) : Hp := fun b =>
  if b ∈ cs.map (·.2) then some (.tbl #[]) else if b = a then (match K.lookup a with | none => some (.frz scr (.lst xs)) | some _ => none) else none
theorem lawH_tab {K : PySem.W.Frag} {scr : Obj} {xs : List V} {p : Addr × Addr} (hp : p ∈ cs) : lawH K cs a scr xs p.2 = some (.tbl #[]) := if_pos (List.mem_map.mpr ⟨p, hp, rfl⟩)
theorem lawH_cases {K : PySem.W.Frag} {scr : Obj} {xs : List V} {b : Addr} {o : HO} (e : lawH K cs a scr xs b = some o) : (b ∈ cs.map (·.2) ∧ o = .tbl #[]) ∨ (b ∉ cs.map (·.2) ∧ b = a ∧ K.lookup a = none ∧ o = .frz scr (.lst xs)) := by
  unfold lawH at e
  by_cases h1 : b ∈ cs.map (·.2)
  · rw [if_pos h1] at e; cases e; exact .inl ⟨h1, rfl⟩
  · rw [if_neg h1] at e
    by_cases h2 : b = a
    · rw [if_pos h2] at e
      cases hk : K.lookup a with
      | none => rw [hk] at e; cases e; exact .inr ⟨h1, h2, rfl, rfl⟩
      | some _ => rw [hk] at e; cases e
    · rw [if_neg h2] at e; cases e
/-- what stands when a law is called: the head's frame K, the module's names, the empty tables cs, the script at a -/
structure Opening (K : PySem.W.Frag) (mg mb : Str → Option Value) (cs : List (Addr × Addr)) (s₁ : Shared) (a : Addr) (vs : List Value) (ns : List Int) : Prop where
  frame : K.In s₁.heap
  globals : s₁.heap.Ns mainGlobals mg
  builtins : s₁.heap.Ns builtinsNs mb
  boot : ∀ x : Str, x ≠ "__name__" → mb x = bootBuiltins x
  line : s₁.heap.NoLimit
  noGens : s₁.gens = #[]
  tables : ∀ p ∈ cs, s₁.heap.get? p.2 = some { cls := .none, data := .fields #[] }
  outside : ∀ p ∈ cs, K.lookup p.2 = none
  codes : ∀ p ∈ cs, PySem.W.CodeHd s₁.heap p.1 p.2
  module_ : ∃ (bm : Addr) (ob : Obj), mg "__builtins__" = some (.ref bm) ∧ bm ≠ builtinsNs ∧ s₁.heap.get? bm = some ob ∧ ob.cls = .type "module" ∧ ob.dict = some builtinsNs ∧ ob.data = .plain
  given : s₁.heap.get? a = some { cls := .type "list", data := .seq vs.toArray }
  numbers : IntsAre vs ns
  short : ns.length ≤ sizeLine
/-- the law is kept: True comes back, and nothing old has changed -/
def KeptAt (s₁ : Shared) (r : Result) (s' : Shared) : Prop := r = .ok (.ret (.bool true)) ∧ OldK s₁.heap s'.heap ∧ s'.os = s₁.os ∧ AllBare s'.gens
theorem law_runG {k : Nat} {fa : Addr} {fd : FuncData} {x : Str} {sp : Sp} (O : Opening K mg mb cs s₁ a vs ns) (hr : Room k callerA) (F : ∀ base : Heap, K.In base → base.Ns mainGlobals mg → (∀ p ∈ cs, LamX.TabB base mg p.1 p.2) → FnG P w K mg base (L2.CX P w) k fa fd [x] sp)
    (hbind : ∀ (s : Shared) (u : Value), BindsTo s fd ⟨[u], []⟩ [(x, u)]) (hsp : ∀ H : Hp, (∀ p ∈ cs, H p.2 = some (.tbl #[])) → SqL K H a (ns.map V.int) → sp [.ref a] H (fun v _ => v = .bl true) fun _ _ _ => False) : codeAny (model P w) callerA (.call (.ref fa) ⟨[.ref a], []⟩) (KeptAt s₁) s₁ := by
  obtain ⟨KX, hns, hb, hbb, hlim, hgens, hT, nT, C, hbm, ha, hi, hl⟩ := O
  have rv := vals_ints hi
  have lenV := hi.length
  -- the tables
  have tabAt : ∀ {b : Addr}, b ∈ cs.map (·.2) → s₁.heap.get? b = some { cls := .none, data := .fields #[] } ∧ K.lookup b = none := fun {b} h => by
    obtain ⟨p, hp, rfl⟩ := List.mem_map.mp h
    exact ⟨hT p hp, nT p hp⟩
  have aNo : a ∉ cs.map (·.2) := fun z => by
    have q := (tabAt z).1
    rw [ha] at q
    have q2 : Data.seq vs.toArray _ = Data.fields #[] := congrArg Obj.data (Option.some.inj q)
    cases q2
  generalize hH : lawH K cs a { cls := .type "list", data := .seq vs.toArray } (ns.map V.int) = H
  have cH : ∀ {b : Addr} {o : HO}, H b = some o → (b ∈ cs.map (·.2) ∧ o = .tbl #[]) ∨ (b ∉ cs.map (·.2) ∧ b = a ∧ K.lookup a = none ∧ o = .frz { cls := .type "list", data := .seq vs.toArray } (.lst (ns.map V.int))) := fun {b o} e => by
    subst hH
    exact lawH_cases e
  have tabH : ∀ p ∈ cs, H p.2 = some (.tbl #[]) := fun p hp => by
    subst hH
    exact lawH_tab hp
  have seqH : SqL K H a (ns.map V.int) := by
    cases hk : K.lookup a with
    | some o =>
      have e := KX a o hk
      rw [ha] at e
      cases e
      exact .inr ⟨_, vs.toArray, _, hk, rfl, rfl, rfl, by rw [List.size_toArray, lenV]; exact hl, by simpa using rv⟩
    | none =>
      refine .inl (.inr ⟨{ cls := .type "list", data := .seq vs.toArray }, ?_⟩)
      subst hH
      unfold lawH
      rw [if_neg aNo, if_pos rfl, hk]
  have okH : HOk P w H s₁.heap := fun b o e => by
    rcases cH e with ⟨h1, rfl⟩ | ⟨_, rfl, _, rfl⟩
    · exact (tabAt h1).1
    · exact ⟨ha, by rw [List.length_map]; exact hl, vs, _, rv, ha⟩
  -- what is neither a list nor an empty table is seen in the base
  have seen : ∀ {b : Addr} {o : Obj}, s₁.heap.get? b = some o → (∀ us n, o.data ≠ .seq us n) → o.data ≠ .fields #[] → (hidT s₁.heap H).get? b = some o := fun {b o} e h1 h2 => by
    refine hidT_get e ?_
    cases q : H b with
    | none => rfl
    | some u =>
      rcases cH q with ⟨h, _⟩ | ⟨_, h, _⟩
      · rw [(tabAt h).1] at e; cases e; exact absurd rfl h2
      · rw [h, ha] at e; cases e; exact absurd rfl (h1 _ _)
  have seenNs : ∀ {b : Addr} {m : Str → Option Value}, s₁.heap.Ns b m → (hidT s₁.heap H).Ns b m := fun {b m} ⟨o, es, ep, e, d, r⟩ =>
    ⟨o, es, ep, seen e (fun us n z => by rw [d] at z; cases z) (fun z => by rw [d] at z; cases z), d, r⟩
  have inB : K.In (hidT s₁.heap H) := fun b o e => hidT_get (KX b o e) (by
    cases q : H b with
    | none => rfl
    | some u =>
      rcases cH q with ⟨h, _⟩ | ⟨_, h, hk, _⟩
      · rw [(tabAt h).2] at e; cases e
      · rw [h, hk] at e; cases e)
  have md : L2.Mod K mg (hidT s₁.heap H) := ⟨inB, seenNs hns, ⟨mb, seenNs hb, hbb⟩, by
    obtain ⟨mc, h1, h2⟩ := hlim
    exact ⟨mc, seenNs h1, h2⟩⟩
  have tb : ∀ p ∈ cs, LamX.TabB (hidT s₁.heap H) mg p.1 p.2 := fun p hp => by
    have hTp := hT p hp
    constructor
    · obtain ⟨o, us, file, tf, flags, tg, inF, text, tt, e1, r1, r2, r3, rest⟩ := C p hp
      refine ⟨o, us, file, tf, flags, tg, inF, text, tt, seen e1 (fun ws n z => ?_) (fun z => ?_), r1, r2, r3, rest⟩
      · rw [r2] at z; cases z
      · rw [r2] at z; cases z; simp at r3
    · obtain ⟨bm, ob, b1, b2, b3, b4, b5, b6⟩ := hbm
      refine ⟨bm, ob, b1, b2, fun z => ?_, fun z => ?_, seen b3 (fun ws n z => ?_) (fun z => ?_), b4, b5, b6⟩
      · obtain ⟨o, es, ep, e, hd, _⟩ := hns
        rw [z, e] at b3; cases b3
        rw [hd] at b6; cases b6
      · rw [z, hTp] at b3; cases b3; cases b6
      · rw [b6] at z; cases z
      · rw [b6] at z; cases z
    · intro z
      obtain ⟨o, es, ep, e, hd, _⟩ := hns
      rw [z, hTp] at e; cases e; cases hd
  have e0 : Env0 P w K mg (hidT s₁.heap H) callerA [] s₁ H := ⟨rfl, md, fun b o e => of_hidT e, Nat.le_of_eq (hidT_size _ _), trivial, fun b hb => (List.not_mem_nil hb).elim, okH, .of_eq hgens⟩
  refine codeAny_mono ((F _ inB (seenNs hns) tb).run callerA [] s₁ H ⟨[.ref a], []⟩ [.ref a] [.ref a] _ _ rfl hr e0 (hbind s₁ (.ref a)) (.cons rfl .nil) (hsp H tabH seqH)) fun r s' h => ?_
  match r, h with
  | .error e, h =>
    obtain ⟨_, _, _, _, _, _, _, _, _, _, _, _, z⟩ := (show L2.CX P w [] H s₁ (fun _ _ _ => False) e s' from h)
    exact z.elim
  | .ok .next, h => exact False.elim h
  | .ok .brk, h => exact False.elim h
  | .ok .cont, h => exact False.elim h
  | .ok (.ret u), h =>
    obtain ⟨v, H', os, bare, un, ok', r', q⟩ := (show CE [] P w H s₁ _ u s' from h)
    obtain rfl : v = V.bl true := q
    obtain rfl : u = Value.bool true := r'
    have more : ∀ p ∈ cs, ∃ ms : Array Value, s'.heap.get? p.2 = some { cls := .none, data := .fields ms } := fun p hp => by
      obtain ⟨ms, z⟩ := un.tbls p.2 #[] (tabH p hp)
      exact ⟨_, ok' p.2 _ z⟩
    have stays : ∀ b o, b ∉ cs.map (·.2) → s₁.heap.get? b = some o → s'.heap.get? b = some o := fun b o nb e => by
      cases q : H b with
      | none => exact un.keep b o e q (fun z => List.not_mem_nil z) (fun z => List.not_mem_nil z)
      | some u =>
        rcases cH q with ⟨h1, _⟩ | ⟨_, _, _, rfl⟩
        · exact absurd h1 nb
        · obtain ⟨e1, _⟩ := okH b _ q
          obtain ⟨e2, _⟩ := ok' b _ (un.frzs b _ _ q)
          rw [e] at e1; cases e1
          exact e2
    refine ⟨rfl, ⟨fun b o e => ?_, fun b o e => ?_⟩, os, bare⟩
    · by_cases hm : b ∈ cs.map (·.2)
      · obtain ⟨p, hp, rfl⟩ := List.mem_map.mp hm
        obtain ⟨ms, hms⟩ := more p hp
        rw [hT p hp] at e; cases e
        exact .inr (.inl ⟨((C p hp).tab (hT p hp)).isCodeTable, rfl, #[], ms, rfl, by rw [Array.empty_append]; exact hms⟩)
      · exact .inl (stays b o hm e)
    · by_cases hm : b ∈ cs.map (·.2)
      · obtain ⟨p, hp, rfl⟩ := List.mem_map.mp hm
        obtain ⟨ms, hms⟩ := more p hp
        exact ⟨_, hms⟩
      · exact ⟨o, stays b o hm e⟩
end
end FW

set_option Elab.async false
set_option linter.all false
set_option maxRecDepth 100000
set_option maxHeartbeats 400000
/-! FW21: repr; a law's def where no repr is under way. -/
namespace FW
open PySem PySem.Spec L2
open PyProof.Rows (envOfC IntsAre AllBare)
def gRepr : List D → Option D
  | [d] => match d.py with
    | some p => if p.showable && !p.hasDict && decide (p.depth ≤ 60) && decide (p.shown.length ≤ sizeLine) then some (.str p.shown) else none
    | none => none
  | _ => none
theorem c_repr [Tc] {X : Cx} (hg : X.A.guards = some []) (hu : X.A.units + 64 < cLine) : HasCall X (.builtin "repr") gRepr := by
  refine ⟨fun xs H Q => ∃ x p, xs = [x] ∧ Dp X.K H x p ∧ p.showable = true ∧ p.hasDict = false ∧ p.depth ≤ 60 ∧ p.shown.length ≤ sizeLine ∧ Q (.str p.shown) H, fun pins s σ H xs us Q I r h => ?_, fun G H ds d xs Q s rs e q => ?_⟩
  · obtain ⟨x, p, rfl, hd, h1, h2, h3, h4, q⟩ := h
    obtain ⟨u, rfl, ru⟩ := vals1 r
    have container : ∀ a, u = .ref a → wpAny (model X.prog X.w) X.A (call (.builtin "repr") [u]) (EP X pins σ Q) X.xe s := fun a e => by
      subst e
      obtain ⟨as, rd⟩ := Dp.reads I p x _ hd ru
      exact PySem.repr_of_reads' rd h1 (fun z => by rw [h2] at z; cases z) hg (by omega) (fun _ _ z => z) (fun h' t tk k => ⟨.str p.shown, H, I.kept (t' := tk) k, ⟨t, rfl⟩, q⟩) h4
    cases hd with
    | non => cases (show u = Value.none from ru); exact PySem.P.repr_of_none ⟨.str _, H, I.tok _, ⟨_, rfl⟩, q⟩
    | bl b => cases (show u = Value.bool b from ru); exact PySem.P.repr_of_bool ⟨.str _, H, I.tok _, ⟨_, rfl⟩, by simpa [PyData.shown] using q⟩
    | int i =>
      obtain ⟨t, z⟩ := (show ∃ t, u = Value.int i t from ru)
      cases z
      exact PySem.P.repr_of_int (by simpa [PyData.showable] using h1) ⟨.str _, H, I.tok _, ⟨_, rfl⟩, q⟩
    | str z =>
      obtain ⟨t, z⟩ := (show ∃ t, u = Value.str z t from ru)
      cases z
      exact PySem.P.repr_of_str ⟨.str _, H, I.tok _, ⟨_, rfl⟩, q⟩ h4
    | lst ha hx => exact container _ ru
    | tup ha hx => exact container _ ru
  · cases rs with
    | nil => cases e
    | cons ra rb =>
      cases rb with
      | cons _ _ => cases e
      | nil =>
        simp only [gRepr] at e
        split at e
        · rename_i p hp
          split at e
          · rename_i hh
            cases e
            simp only [Bool.and_eq_true, Bool.not_eq_true', decide_eq_true_eq] at hh
            obtain ⟨⟨⟨h1, h2⟩, h3⟩, h4⟩ := hh
            exact ⟨_, p, rfl, (ra.sub s).dp _ _ _ hp, h1, h2, h3, h4, q _ _ _ (Al.refl s) (.str _)⟩
          · cases e
        · cases e
section
variable [Tc] {P : Program} {w : World} {K : PySem.W.Frag} {mg : Str → Option Value} {base : Heap}
theorem lawG_mk {x q : Str} {pr : Arguments} {body : List Stmt} {sc : Scope} {f : Addr} {fd : FuncData} {N ps : List Str} {k kn : Nat} {mb : MS} (F : FunD K x q pr body sc [] [] f fd) (S : FnScope N ps sc)
    (hbody : ∀ (cdv : Value) (A : Around) (outer : List PySem.Env) (s : Shared) (H : Hp) (E : XK), (∃ fd oc od osl, K.lookup f = some ⟨oc, od, .func fd, osl⟩ ∧ fd.code = cdv) → (A.deeper (envOfC q sc s.heap.objs.size f cdv)).guards = some [] → Room k (A.deeper (envOfC q sc s.heap.objs.size f cdv)) →
      DSs (cxOf (L2.CX P w) P w K mg base N q sc f cdv A outer s H E) (WEx E) body mb) (hk : N.length = ps.length + kn := by rfl) : FnG P w K mg base (L2.CX P w) (k + 1) f fd ps (spF K mg ps.length (mFn kn mb)) := by
  obtain ⟨oc, od, dV, kV, doc, pm, an, cdv, ct, osl, efd, lk, hcd, _, _⟩ := F.ex
  subst efd
  refine ⟨fun vs H Q E h => h.1, fun A outer s H args us vs Q E hgd hr e0 hb r hsp => ?_⟩
  exact LamX.run_ofS lk hcd S hr e0 hb r hsp.1 fun hr' => body_ok rfl rfl hk hsp (hbody cdv A outer s H E ⟨_, _, _, _, lk, rfl⟩ hgd hr')
end
/-- what is known of the law's def at the head's heap -/
def LawG (l : PySem.W.OpenLaw) (w : World) (K : PySem.W.Frag) (k n : Nat) (x : Str) (mg : Str → Option Value) (fa : Addr) (h : Heap) : Prop :=
  ∃ (fd : FuncData) (cs : List (Addr × Addr)) (sp : Sp),
    (∀ p ∈ cs, h.get? p.2 = some { cls := .none, data := .fields #[] }) ∧ (∀ p ∈ cs, K.lookup p.2 = none) ∧
    (∀ p ∈ cs, PySem.W.CodeHd h p.1 p.2) ∧ (∀ (s : Shared) (u : Value), BindsTo s fd ⟨[u], []⟩ [(x, u)]) ∧ (∀ (H : Hp) (a : Addr) (ns : List Int), ns.length ≤ n → (∀ z ∈ ns, Builtin.Int.intBits z ≤ 1048576) → (∀ p ∈ cs, H p.2 = some (.tbl #[])) → SqL K H a (ns.map V.int) → sp [.ref a] H (fun v _ => v = .bl true) fun _ _ _ => False) ∧
    ∀ base : Heap, K.In base → base.Ns mainGlobals mg → (∀ p ∈ cs, LamX.TabB base mg p.1 p.2) → FnG l.prog w K mg base (L2.CX l.prog w) k fa fd [x] sp
theorem law_walkG {l : PySem.W.OpenLaw} {k : Nat} {q : Program} {loose : List Str} {XP : (Str → Option Value) → Heap → Prop} {YP : World → Heap → Prop} {d : DefRec} {x : Str} (hn : l.most = some 63) (hdf : d.params.defaults = []) (hr : Room k callerA)
    (F : ∀ (w : World) (mg : Str → Option Value) (fa : Addr) (h : Heap), YP w h → h.Ns mainGlobals mg → mg d.name = some (.ref fa) → ∃ K : PySem.W.Frag, K.In h ∧ LawG l w K k 63 x mg fa h) : PySem.W.WalkO q loose XP YP l.row.toRowW d [] (fun f vs => PySem.call f vs) :=
  Att.attach_callB hn hdf fun w _ _ mg mb fa _ _ _ _ a vs ns top says _ _ _ named script numbers few bits free => by
    obtain ⟨K, inK, fd, cs, sp, tab, out, codes, binds, law, def_⟩ := F w mg fa _ says top.T.g named
    exact law_runG ⟨inK, top.T.g, top.T.b, top.T.builtins, top.T.nolimit, free, tab, out, codes, top.T.bmain, script, numbers, Nat.le_trans few (by decide)⟩ hr def_ binds fun H tabs sq => law H a ns few bits tabs sq
end FW

set_option Elab.async false
set_option linter.all false
set_option maxRecDepth 100000
set_option maxHeartbeats 400000
/-! FW22: the head's facts: own error classes by names; our Hook. -/
namespace FW
open PySem PySem.Spec L2
open He (ga ma eqO eqO_ok ba)
/-- an own error class of the text: its name, the field, __init__'s parameter, the text, where all stands -/
structure ErrD where
  cls : Str
  arg : Str
  fld : Str
  msg : Str
  j : Nat
  qual : Str
  sc : Scope
  p1 : Pos
  p2 : Pos
  q1 : Pos
  q2 : Pos
  q3 : Pos
  q4 : Pos
  q5 : Pos
  q6 : Pos
  r1 : Pos
  r2 : Pos
  r3 : Pos
  r4 : Pos
abbrev ErrD.params (e : ErrD) : Arguments := erA e.arg e.p1 e.p2
abbrev ErrD.body (e : ErrD) : List Stmt := erB e.arg e.fld e.msg e.j e.q1 e.q2 e.q3 e.q4 e.q5 e.q6 e.r1 e.r2 e.r3 e.r4
abbrev EV : Type := Option (Str × Str × Arguments × FuncBody × Scope × Addr × List Str × Value × Value × Addr)
def initObs (K : PySem.W.Frag) (x : Str) : EV := match K.lookup (ma K (ga K x) "__init__") with
  | some ⟨_, _, .func fd, _⟩ => some (fd.name, fd.qualname, fd.params, fd.body, fd.scope, fd.globals, fd.closure.map (·.1), fd.defaults, fd.kwdefaults, fd.builtins)
  | _ => none
/-- an __init__ without defaults, with super() in its text -/
def initEV (qual : Str) (pr : Arguments) (body : List Stmt) (sc : Scope) : EV := some ("__init__", qual, pr, .stmts body, sc, mainGlobals, ["__class__"], .none, .none, builtinsNs)
def ErrD.val (e : ErrD) : EV := initEV e.qual e.params e.body e.sc
def clsB (K : PySem.W.Frag) (C : Addr) : Bool := match K.lookup C with
  | some ⟨.type t, _, .cls cd, sl⟩ => (match cd.mro, sl.toList with
    | .ref C' :: bm, [_, _, _, _, some (.builtin n), _] => decide (t = "type") && decide (C' = C) && decide (n = "ValueError.__new__") && !cd.hasDel && cd.hasDict && HandSPX.refsVE bm && eqO (PySem.W.alongIn K "__init__" bm) (some (some (.builtin "ValueError.__init__")))
    | _, _ => false)
  | _ => false
def fnB (K : PySem.W.Frag) (file : Str) (C f : Addr) (qual : Str) : Bool := match K.lookup f with
  | some ⟨_, _, .func fd, _⟩ => PySem.W.codeIn K fd.code qual && (match fd.code with
    | .ref c => (match K.lookup c with
      | some ⟨_, _, .fields vs, _⟩ => (match (vs[2]? : Option Value) with
        | some (Value.str z _) => file == z
        | _ => false)
      | _ => false)
    | _ => false) && (match fd.closure with
    | [(_, cc)] => (match K.lookup cc with
      | some ⟨_, _, .cell (some (.ref D)), _⟩ => decide (D = C)
      | _ => false)
    | _ => false)
  | _ => false
def errB (K : PySem.W.Frag) (file : Str) (e : ErrD) : Bool :=
  clsB K (ga K e.cls) && (fnB K file (ga K e.cls) (ma K (ga K e.cls) "__init__") e.qual && (eqO (PySem.W.nsIn K mainGlobals e.cls) (some (some (.ref (ga K e.cls)))) &&
  (eqO (PySem.W.findIn K (.ref (ga K e.cls)) "__setattr__") (some (some (.builtin "object.__setattr__"))) && (eqO (PySem.W.findIn K (.ref (ga K e.cls)) "__getattribute__") (some (some (.builtin "BaseException.__getattribute__"))) &&
  (eqO (PySem.W.findIn K (.ref (ga K e.cls)) "__getattr__") (some none) && (eqO (PySem.W.findIn K (.ref (ga K e.cls)) e.fld) (some none) &&
  (eqO (PySem.W.findIn K (.ref (ga K e.cls)) "__init__") (some (some (.ref (ma K (ga K e.cls) "__init__")))) && (decide (PySem.W.typeIn K (.ref (ma K (ga K e.cls) "__init__")) = some (.type "function")) &&
  (PySem.W.keepIn K (.ref (ga K e.cls)) && (decide (PySem.W.subIn K (.ref (ga K e.cls)) (.type "BaseException") = some true) && (decide (PySem.W.typeIn K (.ref (ga K e.cls)) = some (.type "type")) &&
  (PySem.W.hasDictIn K (ga K e.cls) && (decide (PySem.W.mroIn K (ga K e.cls) (.ref (ga K e.cls)) = some true) && eqO (PySem.W.nsIn K cStatics "thirdparty.any") (some none))))))))))))))
theorem clsB_ok {K : PySem.W.Frag} {C : Addr} (h : clsB K C = true) : ∃ nm q N bs bm sn sub ab col dd k0 k1 k2 k3 k5, K.lookup C = some (excClassObj nm q C N bs bm true sn sub ab col dd k0 k1 k2 k3 k5 "ValueError.__new__") ∧ HandSPX.refsVE bm = true ∧ PySem.W.alongIn K "__init__" bm = some (some (.builtin "ValueError.__init__")) := by
  unfold clsB at h
  split at h
  · rename_i t dd cd sl ho
    split at h
    · rename_i C' bm k0 k1 k2 k3 n k5 hm hs
      simp only [Bool.and_eq_true, decide_eq_true_eq, Bool.not_eq_true'] at h
      obtain ⟨⟨⟨⟨⟨⟨rfl, rfl⟩, rfl⟩, hdel⟩, hdct⟩, hr⟩, ha⟩ := h
      obtain ⟨nm, bs, mro, ns, qn, hd, sn, sub, ab, col, del⟩ := cd
      dsimp only at hm hdel hdct
      subst hm hdel hdct
      obtain ⟨sll⟩ := sl
      dsimp only at hs
      subst hs
      exact ⟨nm, qn, ns, bs, bm, sn, sub, ab, col, dd, k0, k1, k2, k3, k5, ho, hr, eqO_ok ha⟩
    · cases h
  · cases h
theorem fnB_gen {K : PySem.W.Frag} {file x qual : Str} {C : Addr} {pr : Arguments} {body : List Stmt} {sc : Scope} (h : fnB K file C (ma K (ga K x) "__init__") qual = true) (o : initObs K x = initEV qual pr body sc) :
    ∃ (oc : Value) (od : Option Addr) (doc pm : Value) (an : Option Addr) (cda cc : Addr) (ct : Value) (osl : Array (Option Value)) (ccl cl : Value) (cdd cld : Option Addr) (ccs csl : Array (Option Value)) (vs : Array Value) (z : Str) (tf : Tok),
      K.lookup (ma K (ga K x) "__init__") = some ⟨oc, od, .func (PySem.W.ksFn "__init__" qual pr body sc .none .none doc pm an (.ref cda) ct cc), osl⟩ ∧ PySem.W.codeIn K (.ref cda) qual = true ∧
      K.lookup cda = some ⟨ccl, cdd, .fields vs, ccs⟩ ∧ vs[2]? = some (.str z tf) ∧ (file == z) = true ∧ K.lookup cc = some ⟨cl, cld, .cell (some (.ref C)), csl⟩ := by
  unfold fnB at h
  unfold initObs at o
  split at h
  · rename_i oc od fd osl ho
    rw [ho] at o
    obtain ⟨n1, n2, n3, n4, n5, n6, n7, n8, n9, n10, n11, n12, n13, n14, n15⟩ := fd
    have o2 : (some (n1, n2, n3, n4, n5, n6, n7.map (·.1), n8, n9, n15) : EV) = initEV qual pr body sc := o
    unfold initEV at o2
    simp only [Option.some.injEq, Prod.mk.injEq] at o2
    obtain ⟨h1, h2, h3, h4, h5, h6, h7, h8, h9, h10⟩ := o2
    subst h1 h2 h3 h4 h5 h6 h8 h9 h10
    simp only [Bool.and_eq_true] at h
    obtain ⟨⟨hc, hf⟩, hz⟩ := h
    split at hf
    · rename_i c
      split at hf
      · rename_i ccl cdd vs ccs hcl
        split at hf
        · rename_i z tf hv
          split at hz
          · rename_i nn cc
            simp only [List.map_cons, List.map_nil, List.cons.injEq, and_true] at h7
            subst h7
            split at hz
            · rename_i cl cld D csl hcc
              have hD : D = C := of_decide_eq_true hz
              subst hD
              exact ⟨oc, od, n10, n11, n12, c, cc, n14, osl, ccl, cl, cdd, cld, ccs, csl, vs, z, tf, ho, hc, hcl, hv, hf, hcc⟩
            · cases hz
          · cases hz
        · cases hf
      · cases hf
    · cases hf
  · cases h
theorem errTxt_of {P : Program} {K : PySem.W.Frag} {h : Heap} {mg : Str → Option Value} {e : ErrD} (X : K.In h) (G : h.Ns mainGlobals mg) (hB : errB K P.main.file e = true) (hO : initObs K e.cls = e.val) (hsup : mg "super" = none)
    (top : (P.main.scope.names.lookup ("super" : Str)).isSome = false) (scs : e.sc.names.lookup ("super" : Str) = some .globalImplicit) (scc : e.sc.names.lookup ("__class__" : Str) = some .free) (scS : e.sc.names.lookup ("self" : Str) = some .local) (scA : e.sc.names.lookup e.arg = some .local)
    (sck : e.sc.kind = .function) (sco : e.sc.isCoroutine = false) (scg : e.sc.isGenerator = false) (scn : ∀ x ∈ e.sc.names, x.2 ≠ .cell) (ne : e.arg ≠ "self")
    (h1 : ∀ (L fI cda cc : Addr), ∃ pl : Sem Bool, eval (.Call (.Attribute (.Call (.Name "super" e.q1) [] [] e.q2) "__init__" e.q3) [.Constant (.str e.msg) e.j e.q4] [] e.q5) (PySem.W.ksEnv e.qual e.sc L fI (.ref cda) cc) = (do
      let ov ← attributeBase (.Call (.Name "super" e.q1) [] [] e.q2) "__init__" (PySem.W.ksEnv e.qual e.sc L fI (.ref cda) cc) (eval (.Call (.Name "super" e.q1) [] [] e.q2) (PySem.W.ksEnv e.qual e.sc L fI (.ref cda) cc))
      standAt e.q3.atName
      let (f', first) ← holding [ov] (getMethod ov "__init__" pl)
      callWith e.q5 f' first (backTo e.q5 (starEach [.Constant (.str e.msg) e.j e.q4] (PySem.W.ksEnv e.qual e.sc L fI (.ref cda) cc))) []))
    (h2 : ∀ (L fI cda cc : Addr), swapsWith (.Call (.Attribute (.Call (.Name "super" e.q1) [] [] e.q2) "__init__" e.q3) [.Constant (.str e.msg) e.j e.q4] [] e.q5) none e.q6.line (PySem.W.ksEnv e.qual e.sc L fI (.ref cda) cc) = pure false)
    (h3 : ∀ (L fI cda cc : Addr), swapsWith (.Name e.arg e.r3) (some (.Attribute (.Name "self" e.r1) e.fld e.r2)) e.r4.line (PySem.W.ksEnv e.qual e.sc L fI (.ref cda) cc) = pure false) (hd : (e.arg == ("__debug__" : Str)) = false)
    (hb : ∀ (doc pm ct : Value) (an : Option Addr) (cda cc : Addr) (x v : Value), bindArgs (PySem.W.ksFn "__init__" e.qual e.params e.body e.sc .none .none doc pm an (.ref cda) ct cc) ⟨[x, v], []⟩ = pure [(("self" : Str), x), (e.arg, v)]) :
    ErrTxt P K mg e.cls e.arg e.fld e.msg e.j e.sc (ga K e.cls) (ma K (ga K e.cls) "__init__") := by
  obtain ⟨c1, g⟩ := ba hB
  obtain ⟨c2, g⟩ := ba g
  obtain ⟨c3, g⟩ := ba g
  obtain ⟨c4, g⟩ := ba g
  obtain ⟨c5, g⟩ := ba g
  obtain ⟨c6, g⟩ := ba g
  obtain ⟨c7, g⟩ := ba g
  obtain ⟨c8, g⟩ := ba g
  obtain ⟨c9, g⟩ := ba g
  obtain ⟨c10, g⟩ := ba g
  obtain ⟨c11, g⟩ := ba g
  obtain ⟨c12, g⟩ := ba g
  obtain ⟨c13, g⟩ := ba g
  obtain ⟨c14, c15⟩ := ba g
  obtain ⟨oc, od, doc, pm, an, cda, cc, ct, osl, ccl, cl, cdd, cld, ccs, csl, vs, z, tf, f1, f2, f3, f4, f5, f6⟩ := fnB_gen (pr := e.params) (body := e.body) (sc := e.sc) c2 hO
  exact {
    gC := PySem.W.mg_of X G (eqO_ok c3)
    cls := clsB_ok c1
    sa := eqO_ok c4
    ga := eqO_ok c5
    gg := eqO_ok c6
    noN := eqO_ok c7
    iC := eqO_ok c8
    tC := of_decide_eq_true c9
    kC := c10
    exC := of_decide_eq_true c11
    tyC := of_decide_eq_true c12
    hdC := c13
    sub := of_decide_eq_true c14
    opq := eqO_ok c15
    sup := hsup
    top := top
    scs := scs
    scc := scc
    scS := scS
    scA := scA
    sck := sck
    sco := sco
    scg := scg
    scn := scn
    ne := ne
    fn := ⟨oc, od, doc, pm, an, cda, cc, ct, osl, e.qual, e.p1, e.p2, e.q1, e.q2, e.q3, e.q4, e.q5, e.q6, e.r1, e.r2, e.r3, e.r4, ccl, cl, cdd, cld, ccs, csl, vs, z, tf, f1, f2, f3, f4, f5, f6, fun L => h1 L _ cda cc, fun L => h2 L _ cda cc, fun L => h3 L _ cda cc, hd, fun x v => hb doc pm ct an cda cc x v⟩ }
end FW

set_option Elab.async false
set_option linter.all false
set_option maxRecDepth 100000
set_option maxHeartbeats 400000
/-! FW23: our Hook: defs, facts, tables of lambdas, own error classes, by names. -/
namespace FW
open PySem PySem.Spec L2
open He (ga ma eqO eqO_ok ba frT frT_in frT_none growD obsT valT tabsB emptyTab emptyTab_eq DefD Tab Defn SaysX AlX cT Fa)
/-- what the module's names and the static part reach in n steps -/
def asF (g : Addr → Option Obj) : Nat → List Addr
  | 0 => [mainGlobals, cStatics]
  | n + 1 => growD g (asF g n)
def kF (n : Nat) (g : Addr → Option Obj) : PySem.W.Frag := frT g (sysModules :: asF g n)
abbrev AlF : Type := AlX × List EV
def obsF (n : Nat) (fa : List Fa) (fn : List DefD) (ts : List Tab) (tf : List Defn) (ex : PySem.W.Frag → Bool) (es : List (Str × EV)) (g : Addr → Option Obj) : AlF :=
  ((obsT fa fn ts (kF n g), ex (kF n g) && tabsB g tf (kF n g)), es.map fun e => initObs (kF n g) e.1)
def valF (fn : List DefD) (ts : List Tab) (es : List (Str × EV)) (w : World) : AlF := ((valT fn ts w, true), es.map (·.2))
structure SaysF (fa : List Fa) (fn : List DefD) (ts : List Tab) (tf : List Defn) (ex : PySem.W.Frag → Bool) (es : List (Str × EV)) (w : World) (h : Heap) (K : PySem.W.Frag) : Prop where
  x : SaysX fa fn ts tf ex w h K
  e : ∀ d ∈ es, initObs K d.1 = d.2
theorem saysF_of {n : Nat} {fa : List Fa} {fn : List DefD} {ts : List Tab} {tf : List Defn} {ex : PySem.W.Frag → Bool} {es : List (Str × EV)} {w : World} {h : Heap} (q : obsF n fa fn ts tf ex es h.get? = valF fn ts es w) : SaysF fa fn ts tf ex es w h (kF n h.get?) := by
  have q1 := congrArg (fun z : AlF => z.1.1) q
  have q2 := congrArg (fun z : AlF => z.1.2) q
  have q3 := congrArg (fun z : AlF => z.2) q
  obtain ⟨m1, m2⟩ := ba (show (ex (kF n h.get?) && tabsB h.get? tf (kF n h.get?)) = true from q2)
  have tab : ∀ p ∈ tf, PySem.W.codeHdIn (kF n h.get?) (cT (kF n h.get?) p).1 (cT (kF n h.get?) p).2 = true ∧ ∃ o, h.get? (cT (kF n h.get?) p).2 = some o ∧ emptyTab o = true := fun p hp => by
    obtain ⟨c1, c2⟩ := ba (List.all_eq_true.mp m2 p hp)
    refine ⟨c1, ?_⟩
    cases w : h.get? (cT (kF n h.get?) p).2 with
    | none => rw [w] at c2; cases c2
    | some o => rw [w] at c2; exact ⟨o, rfl, c2⟩
  refine ⟨⟨q1, m1, fun p hp => (tab p hp).1, fun p hp => ?_, fun p hp => ?_⟩, fun d hd => ?_⟩
  · obtain ⟨_, o, a, b⟩ := tab p hp
    exact frT_none a b
  · obtain ⟨_, o, a, b⟩ := tab p hp
    rw [a, emptyTab_eq b]
  · obtain ⟨i, hi, e⟩ := List.mem_iff_getElem.mp hd
    have q4 : es.map (fun e => initObs (kF n h.get?) e.1) = es.map (·.2) := q3
    have q5 := congrArg (fun l : List EV => l[i]?) q4
    rw [List.getElem?_map, List.getElem?_map, List.getElem?_eq_getElem hi, e] at q5
    exact Option.some.inj q5
def hookF (n : Nat) (fa : List Fa) (fn : List DefD) (ts : List Tab) (tf : List Defn) (ex : PySem.W.Frag → Bool) (es : List (Str × EV)) : PySem.W.Hook where
  α := AlF
  obs := fun s => obsF n fa fn ts tf ex es s.heap.get?
  val := fun w => valF fn ts es w
  says := fun w h => ∃ K : PySem.W.Frag, K.In h ∧ SaysF fa fn ts tf ex es w h K
  of := fun _ _ e => ⟨_, frT_in, saysF_of e⟩
  keeps := fun _ _ _ ⟨K, hK, c⟩ k => ⟨K, PySem.W.Frag.In.keeps hK k, ⟨⟨c.x.t, c.x.more, c.x.hd, c.x.out, fun p hp => k _ _ (c.x.empty p hp)⟩, c.e⟩⟩
theorem obsF_eq {n : Nat} {fa : List Fa} {fn : List DefD} {ts : List Tab} {tf : List Defn} {ex : PySem.W.Frag → Bool} {es : List (Str × EV)} {g : Addr → Option Obj} {s : Shared} (h : ∀ a, g a = s.heap.get? a) : obsF n fa fn ts tf ex es g = (hookF n fa fn ts tf ex es).obs s := by
  have e : g = s.heap.get? := funext h
  rw [e] <;> rfl
end FW

set_option Elab.async false
set_option linter.all false
set_option maxRecDepth 100000
set_option maxHeartbeats 400000
/-! FW24: more facts by names: isinstance, fields, what a clause catches. -/
namespace FW
open PySem PySem.Spec L2
open He (ga ma eqO eqO_ok ba)
def gloB (K : PySem.W.Frag) (n : Str) : Bool := eqO (PySem.W.nsIn K mainGlobals n) (some (some (.ref (ga K n))))
def excCB (K : PySem.W.Frag) (D : Addr) : Bool :=
  eqO (PySem.W.findIn K (.ref D) "__getattribute__") (some (some (.builtin "BaseException.__getattribute__"))) && (eqO (PySem.W.findIn K (.ref D) "__getattr__") (some none) && (decide (PySem.W.subIn K (.ref D) (.type "BaseException") = some true) && (PySem.W.hasDictIn K D &&
  (eqO (PySem.W.findIn K (.ref D) "__class__") (some (some (.builtin "object.__class__"))) && (eqO (PySem.W.specialIn K (.builtin "object.__class__") "__get__") (some (some (.builtin "getset_descriptor.__get__"))) &&
  (decide (PySem.W.takesIn K (.builtin "object.__class__") = some true) && decide (PySem.W.mroIn K D (.type "object") = some true)))))))
theorem excCB_ok {K : PySem.W.Frag} {D : Addr} (h : excCB K D = true) : ExcC K D := by
  obtain ⟨c1, h⟩ := ba h
  obtain ⟨c2, h⟩ := ba h
  obtain ⟨c3, h⟩ := ba h
  obtain ⟨c4, h⟩ := ba h
  obtain ⟨c5, h⟩ := ba h
  obtain ⟨c6, h⟩ := ba h
  obtain ⟨c7, c8⟩ := ba h
  exact ⟨eqO_ok c1, eqO_ok c2, of_decide_eq_true c3, c4, eqO_ok c5, eqO_ok c6, of_decide_eq_true c7, of_decide_eq_true c8⟩
def kitTs : List String := ["NoneType", "bool", "int", "str", "list", "tuple", "dict"]
def isCB (K : PySem.W.Frag) (c : Str) (yes no : List Str) : Bool :=
  (yes.all fun n => gloB K n && (excCB K (ga K n) && decide (PySem.W.kitOne K (.ref (ga K n)) (.ref (ga K c)) = some true))) && ((no.all fun n => gloB K n && (excCB K (ga K n) && decide (PySem.W.kitOne K (.ref (ga K n)) (.ref (ga K c)) = some false))) &&
  kitTs.all fun t => decide (PySem.W.kitOne K (.type t) (.ref (ga K c)) = some false))
theorem isCB_ok {K : PySem.W.Frag} {h : Heap} {mg : Str → Option Value} {c : Str} {yes no : List Str} (X : K.In h) (G : h.Ns mainGlobals mg) (q : isCB K c yes no = true) : IsC K mg (ga K c) yes no := by
  obtain ⟨c1, q⟩ := ba q
  obtain ⟨c2, c3⟩ := ba q
  refine ⟨fun n hn => ?_, fun n hn => ?_, fun t ht => of_decide_eq_true (List.all_eq_true.mp c3 t ht)⟩
  · obtain ⟨a, b⟩ := ba (List.all_eq_true.mp c1 n hn)
    obtain ⟨b, c⟩ := ba b
    exact ⟨_, PySem.W.mg_of X G (eqO_ok a), excCB_ok b, of_decide_eq_true c⟩
  · obtain ⟨a, b⟩ := ba (List.all_eq_true.mp c2 n hn)
    obtain ⟨b, c⟩ := ba b
    exact ⟨_, PySem.W.mg_of X G (eqO_ok a), excCB_ok b, of_decide_eq_true c⟩
def fldB (K : PySem.W.Frag) (f : Str) (ns : List Str) : Bool := ns.all fun n => gloB K n && (xfB K (ga K n) && eqO (PySem.W.findIn K (.ref (ga K n)) f) (some none))
theorem fldB_ok {K : PySem.W.Frag} {h : Heap} {mg : Str → Option Value} {f : Str} {ns : List Str} (X : K.In h) (G : h.Ns mainGlobals mg) (q : fldB K f ns = true) : FldC K mg f ns := fun n hn => by
  obtain ⟨a, b⟩ := ba (List.all_eq_true.mp q n hn)
  obtain ⟨b, c⟩ := ba b
  exact ⟨_, PySem.W.mg_of X G (eqO_ok a), xfB_ok b, eqO_ok c⟩
def catB (K : PySem.W.Frag) (c : Str) (ns : List Str) : Bool := gloB K c && ns.all fun n => gloB K n && decide (PySem.W.exmOne K (.ref (ga K n)) (.ref (ga K c)) = some true)
theorem catB_ok {K : PySem.W.Frag} {h : Heap} {mg : Str → Option Value} {c : Str} {ns : List Str} (X : K.In h) (G : h.Ns mainGlobals mg) (q : catB K c ns = true) : mg c = some (.ref (ga K c)) ∧ ∀ n ∈ ns, ∃ C, mg n = some (.ref C) ∧ PySem.W.exmOne K (.ref C) (.ref (ga K c)) = some true := by
  obtain ⟨a, b⟩ := ba q
  refine ⟨PySem.W.mg_of X G (eqO_ok a), fun n hn => ?_⟩
  obtain ⟨c, d⟩ := ba (List.all_eq_true.mp b n hn)
  exact ⟨_, PySem.W.mg_of X G (eqO_ok c), of_decide_eq_true d⟩
/-- the class of a definition in the text: its __init__ -/
def clsInit : Stmt → Stmt
  | .ClassDef _ _ _ (s :: _) .. => s
  | s => s
end FW

set_option Elab.async false
set_option linter.all false
set_option maxRecDepth 100000
set_option maxHeartbeats 400000
/-! FW25: short words for the generator. -/
namespace FW
open PySem PySem.Spec L2
variable [Tc]
theorem uR {k : Nat} {A : Around} (hr : Room k A) : A.units + 64 < cLine := hr.units
theorem u1 {k : Nat} {A : Around} (hr : Room k A) : A.units + 1 < cLine := by
  have := hr.units
  omega
def mChainV (g g' : D → D → Option Bool) (m n k : M D) : M D := mBind m fun a => mBind n fun b => mBind (mOpt (g a b)) fun c => if c then mBind k fun d => mBind (mOpt (g' b d)) fun e => mPure (.bl e) else mPure (.bl false)
def blkB (N : List Str) (sc scope : Scope) (own : List (Str × Nat)) : Bool :=
  decide (scope.kind = .function) && ((scope.names.all fun y => decide (scope.names.lookup y.1 = some y.2)) && ((own.all fun p => decide (N[p.2]? = some p.1)) &&
  ((scope.names.all fun y => !decide (y.2 = .free) || decide (sc.names.lookup y.1 = some .cell) || decide (sc.names.lookup y.1 = some .free)) &&
  (scope.names.all fun y => (!decide (y.2 = .local) && !decide (y.2 = .cell)) || (own.map (·.1)).contains y.1 || !N.contains y.1))))
theorem blk_of {N : List Str} {sc scope : Scope} {own : List (Str × Nat)} (h : blkB N sc scope own = true) : BlkOk N sc scope own := by
  unfold blkB at h
  simp only [Bool.and_eq_true, Bool.or_eq_true, Bool.not_eq_true', decide_eq_true_eq, decide_eq_false_iff_not, List.all_eq_true, List.contains_iff_mem] at h
  obtain ⟨h1, h2, h3, h4, h5⟩ := h
  refine ⟨h1, h2, h3, fun y hy e => ?_, fun y hy e => ?_⟩
  · rcases h4 y hy with (z | z) | z
    · exact absurd e z
    · exact .inl z
    · exact .inr z
  · rcases h5 y hy with (z | z) | z
    · rcases e with e | e
      · exact absurd e z.1
      · exact absurd e z.2
    · exact .inl (by simpa using z)
    · exact .inr (by simpa using z)
def mRange1 (ma : M (List D)) : M (List D) := mBind ma fun ds => mOpt (match ds with | [.int j] => if -(2 ^ 62) ≤ j ∧ j < 2 ^ 62 then some (rangeD 0 j.toNat) else none | _ => none)
def mRange2 (ma : M (List D)) : M (List D) := mBind ma fun ds => mOpt (match ds with | [.int i, .int j] => if -(2 ^ 62) ≤ i ∧ i < 2 ^ 62 ∧ -(2 ^ 62) ≤ j ∧ j < 2 ^ 62 then some (rangeD i (j - i).toNat) else none | _ => none)
def mEnum (m : M D) : M (List D) := mBind m fun d => mOpt (match d with | .lst xs => some (enumD 0 xs) | .rol xs => some (enumD 0 xs) | _ => none)
abbrev sRetN : MS := fun ρ => .rt .non ρ
def mDct0 : M Sl := mPure (.dct false [])
section
variable {X : Cx} {W : WX} {tg e : Expr} {m : M D} {ma : M (List D)} {p1 pos : Pos} {x : Str} {j : Nat}
theorem dch {a b c : Expr} {m n k : M D} {g g' : D → D → Option Bool} {op op' : CmpOp} (ho : HasCmp X (compareOp op) g) (ho' : HasCmp X (compareOp op') g') (ha : DE X W a m) (hb : DE X W b n) (hc : DE X W c k) (hm : lastMarks [op, op'] [b, c] = false := by with_unfolding_all rfl) :
    DE X W (.Compare a [op, op'] [b, c] pos) (mChainV g g' m n k) := de_chain ho ho' ha hb hc hm
theorem de_ife {a b c : Expr} {m n : M D} {mb : M Bool} (hc : DT X W c mb) (ha : DE X W a m) (hb : DE X W b n) : DE X W (.IfExp c a b pos) (mIte mb m n) := de_ifExp (e1 := a) (e2 := a) hc ha hb
theorem dr1 (hm : X.mg "range" = none) (ha : DA X W [e] ma) (hg : Gl X "range" := by rfl) (hs : starEach [e] X.env = [(false, eval e X.env)] := by rfl) : DI X W tg (.Call (.Name "range" p1) [e] [] pos) (mRange1 ma) := di_range1 hm ha hg hs
theorem dr2 {e2 : Expr} (hm : X.mg "range" = none) (ha : DA X W [e, e2] ma) (hg : Gl X "range" := by rfl) (hs : starEach [e, e2] X.env = [(false, eval e X.env), (false, eval e2 X.env)] := by rfl) (hs2 : starEach [e2] X.env = [(false, eval e2 X.env)] := by rfl) :
    DI X W tg (.Call (.Name "range" p1) [e, e2] [] pos) (mRange2 ma) := di_range2 hm ha hg hs hs2
theorem den {elts : List Expr} {kk : Nat} {tpos : Pos} (hm : X.mg "enumerate" = none) (h : DE X W e m) (hg : Gl X "enumerate" := by rfl) (hs : starEach [e] X.env = [(false, eval e X.env)] := by rfl) (hs2 : starEach (e :: []) X.env = (false, eval e X.env) :: starEach [] X.env := by rfl) :
    DI X W (.Tuple elts kk tpos) (.Call (.Name "enumerate" p1) [e] [] pos) (mEnum m) := di_enum hm h hg hs hs2
theorem de_gint {i : Int} (h : ∃ t, X.mg x = some (.int i t)) (hg : Gl X x := by rfl) (hd : (x == ("__debug__" : Str)) = false := by decide) : DE X W (.Name x pos) (mPure (.int i)) := by
  obtain ⟨t, h⟩ := h
  exact de_glob (v := .int i) h ⟨t, rfl⟩ (fun _ => .int i) hg hd
theorem de_gstr {z : Str} (h : ∃ t, X.mg x = some (.str z t)) (hg : Gl X x := by rfl) (hd : (x == ("__debug__" : Str)) = false := by decide) : DE X W (.Name x pos) (mPure (.str z)) := by
  obtain ⟨t, h⟩ := h
  exact de_glob (v := .str z) h ⟨t, rfl⟩ (fun _ => .str z) hg hd
theorem de_neg {i : Int} : DE X W (.UnaryOp .USub (.Constant (.int i) j p1) pos) (mPure (.int (-i))) := by
  refine PEimp (pe_un un_neg pe_int) ?_
  rintro σ H Q ⟨G, ρ, S, st, p⟩
  exact ⟨i, rfl, p _ _ _ (Stp.refl st) _ (.int _)⟩
theorem dx_dct0 : DX X W (.Dict [] [] pos) mDct0 := by
  refine PEimp pe_dnewK ?_
  rintro σ H Q ⟨G, ρ, S, st, p⟩
  intro a ha
  have al := Al.newH (o := .dK []) st.sub ha
  refine p _ _ _ (al.stp st) (.ref a) [a] rfl (.dct upd_same .nil) (fun b hb => ?_) (by simp)
  simp at hb; subst hb
  exact ⟨nt_none ha, fun z => st.sls.notNt z (nt_none ha), st.sub.ne ha⟩
end

section
open PyProof.Rows (envOfC)
variable {P : Program} {w : World} {K : PySem.W.Frag} {mg : Str → Option Value} {base : Heap}
/-- a law's def, its code object by name (for lambdas) -/
theorem lawG_mk2 {p : He.Defn} {x q : Str} {pr : Arguments} {body : List Stmt} {sc : Scope} {fd : FuncData} {N ps : List Str} {k kn : Nat} {mb : MS} (F : FunD K x q pr body sc [] [] (He.fAd K p) fd) (S : FnScope N ps sc)
    (hbody : ∀ (A : Around) (outer : List PySem.Env) (s : Shared) (H : Hp) (E : XK), (A.deeper (envOfC q sc s.heap.objs.size (He.fAd K p) (.ref (He.codeOf K p)))).guards = some [] → Room k (A.deeper (envOfC q sc s.heap.objs.size (He.fAd K p) (.ref (He.codeOf K p)))) →
      DSs (cxOf (L2.CX P w) P w K mg base N q sc (He.fAd K p) (.ref (He.codeOf K p)) A outer s H E) (WEx E) body mb) (hk : N.length = ps.length + kn := by rfl) : FnG P w K mg base (L2.CX P w) (k + 1) (He.fAd K p) fd ps (spF K mg ps.length (mFn kn mb)) := by
  obtain ⟨oc, od, dV, kV, doc, pm, an, cdv, ct, osl, efd, lk, hcd, _, _⟩ := F.ex
  subst efd
  obtain ⟨c, rfl⟩ := He.codeIn_ref hcd
  have ec : He.codeOf K p = c := He.codeOf_eq lk rfl
  subst ec
  exact ⟨fun vs H Q E h => h.1, fun A outer s H args us vs Q E hgd hr e0 hb r hsp => LamX.run_ofS lk hcd S hr e0 hb r hsp.1 fun hr' => body_ok rfl rfl hk hsp (hbody A outer s H E hgd hr')⟩
end
end FW

set_option Elab.async false
set_option linter.all false
set_option maxRecDepth 100000
set_option maxHeartbeats 400000
/-! FW26: plain laws of the mirrors. -/
namespace FW
open PySem PySem.Spec L2
theorem compL_pure {vs : List Nat} {g : D → Env → Option Env} {mt : M Bool} {me : M D} {ρ : Env} (t : D → Bool) (e : D → D) : ∀ {ds acc : List D},
    (∀ d ∈ ds, ∃ ρ1, g d ρ = some ρ1 ∧ mt ρ1 = .ok (t d) ρ1 ∧ (t d = true → me ρ1 = .ok (e d) ρ1) ∧ wipeE vs ρ1 = some ρ) → compL vs g mt me ds ρ acc = .ok (acc ++ (ds.filter t).map e) ρ
  | [], acc, _ => by simp [compL]
  | d :: ds, acc, h => by
    obtain ⟨ρ1, h1, h2, h3, h4⟩ := h d (by simp)
    have ih := fun acc => compL_pure (acc := acc) t e (fun x hx => h x (List.mem_cons_of_mem _ hx))
    unfold compL
    rw [h1]
    dsimp only
    rw [h2]
    cases q : t d with
    | true =>
      dsimp only
      rw [h3 q]
      dsimp only
      rw [h4]
      dsimp only
      rw [ih]
      simp [List.filter_cons, q]
    | false =>
      dsimp only
      rw [h4]
      dsimp only
      rw [ih]
      simp [List.filter_cons, q]
def tLarge : D → Bool | .int n => decide (10 ^ 18 ≤ absI n) | _ => false
def eLarge : D → D | .int n => .int (absI n - 10 ^ 18) | d => d
def eCell : D → D | .int n => .int (absI n) | d => d
theorem large_map (ns : List Int) : ((ns.map D.int).filter tLarge).map eLarge = (largeOf ns).map D.int := by
  rw [List.filter_map, List.map_map]
  unfold largeOf
  rw [List.map_map]
  rfl
theorem cell_map (ns : List Int) : ((ns.map D.int).filter fun _ => true).map eCell = (cellsOf ns).map D.int := by
  rw [List.filter_map, List.map_map]
  unfold cellsOf
  rw [List.map_map]
  have e : ns.filter ((fun _ => true) ∘ D.int) = ns := List.filter_eq_self.mpr fun _ _ => rfl
  rw [e]
  rfl
theorem mLc_pure {vs : List Nat} {mi : M (List D)} {g : D → Env → Option Env} {mt : M Bool} {me : M D} {ρ ρ1 ρ0 : Env} {ds ys : List D} (h1 : mi ρ = .ok ds ρ1) (hl : ds.length ≤ sizeLine) (hf : freeAll vs ρ1 = true) (hw : wipeE vs ρ1 = some ρ0) (hc : compL vs g mt me ds ρ0 [] = .ok ys ρ0) (hf2 : freeAll vs ρ0 = true) :
    mLc vs mi g mt me ρ = .ok (.lst false ys) (backE ρ1 vs ρ0) := by
  unfold mLc mBind
  rw [h1]
  show (if (decide (ds.length ≤ sizeLine) && freeAll vs ρ1) = true then _ else _) = _
  rw [hf, Bool.and_true, if_pos (decide_eq_true hl), hw]
  dsimp only
  rw [hc]
  dsimp only
  rw [if_pos hf2]
abbrev mtLarge : M Bool := mCmp dGe (mCall gAbs (mCons (mVar 2) (mPure []))) (mOp dPow (mPure (.int 10)) (mPure (.int 18)))
abbrev meLarge : M D := mOp dSub (mCall gAbs (mCons (mVar 2) (mPure []))) (mOp dPow (mPure (.int 10)) (mPure (.int 18)))
abbrev m1B : M Sl := mLc [2] (mItems (mVar 0)) (gNameD 2) mtLarge meLarge
abbrev m2B : M Sl := mLc [2] (mItems (mVar 0)) (gNameD 2) (mPure true) (mCall gAbs (mCons (mVar 2) (mPure [])))
theorem begun_v1 (ns : List Int) (h : ns.length ≤ sizeLine) : sSetX 1 m1B [.dat (.rol (ns.map .int)), .un, .un] = .nx [.dat (.rol (ns.map .int)), .lst false ((largeOf ns).map .int), .un] := by
  have c := compL_pure (vs := [2]) (g := gNameD 2) (mt := mtLarge) (me := meLarge) (ρ := [.dat (.rol (ns.map .int)), .un, .un]) (ds := ns.map .int) (acc := []) tLarge eLarge (fun d hd => by
    obtain ⟨n, _, rfl⟩ := List.mem_map.mp hd
    refine ⟨[.dat (.rol (ns.map .int)), .un, .dat (.int n)], rfl, ?_, fun _ => ?_, rfl⟩
    · rfl
    · rfl)
  rw [large_map, List.nil_append] at c
  unfold sSetX m1B
  rw [mLc_pure (mi := mItems (mVar 0)) (ρ1 := [.dat (.rol (ns.map .int)), .un, .un]) (ρ0 := [.dat (.rol (ns.map .int)), .un, .un]) (ds := ns.map .int) rfl (by simpa using h) rfl rfl c rfl]
  rfl
theorem begun_v2 (ns : List Int) (s : Sl) (h : ns.length ≤ sizeLine) : m2B [.dat (.rol (ns.map .int)), s, .un] = .ok (.lst false ((cellsOf ns).map .int)) [.dat (.rol (ns.map .int)), s, .un] := by
  have c := compL_pure (vs := [2]) (g := gNameD 2) (mt := mPure true) (me := mCall gAbs (mCons (mVar 2) (mPure []))) (ρ := [.dat (.rol (ns.map .int)), s, .un]) (ds := ns.map .int) (acc := []) (fun _ => true) eCell (fun d hd => by
    obtain ⟨n, _, rfl⟩ := List.mem_map.mp hd
    exact ⟨[.dat (.rol (ns.map .int)), s, .dat (.int n)], rfl, rfl, fun _ => rfl, rfl⟩)
  rw [cell_map, List.nil_append] at c
  unfold m2B
  rw [mLc_pure (mi := mItems (mVar 0)) (ρ1 := [.dat (.rol (ns.map .int)), s, .un]) (ρ0 := [.dat (.rol (ns.map .int)), s, .un]) (ds := ns.map .int) rfl (by simpa using h) rfl rfl c rfl]
  rfl
end FW

set_option Elab.async false
set_option linter.all false
set_option maxRecDepth 100000
set_option maxHeartbeats 400000
/-! FW27: what a draw gives. -/
namespace FW
open PySem PySem.Spec L2
abbrev mD_mixed : MS := (sSeq (sTurn 0 (mOp dAdd (mTurn 0) (mPure (.int 1))))
  (sSeq (sPar [1, 2] (mConsD (mCall gInt (mCons (mTurn 0) (mPure []))) (mConsD (mPure (.int 0)) (mPure []))))
  (sSeq (sFor (mItems (mFz (mLstX (mCons (mPure (.int 2147483629)) (mCons (mPure (.int 2147483587)) (mCons (mPure (.int 2147483579)) (mPure []))))))) (gNameD 3) (sSeq (sAsg (mOp dMod (mOp dAdd (mOp dMul (mVar 1) (mPure (.int 69621))) (mOp dDiv (mVar 3) (mPure (.int 7)))) (mVar 3)) (gNameD 4))
  (sSeq (sFor (mItems (mCells 0)) (gNameD 5) (sAsg (mOp dMod (mOp dAdd (mOp dMul (mVar 4) (mPure (.int 48271))) (mCall gInt (mCons (mVar 5) (mPure [])))) (mVar 3)) (gNameD 4)))
  (sAsg (mOp dAdd (mOp dMul (mVar 2) (mPure (.int 2147483647))) (mOp dMod (mOp dPow (mVar 4) (mPure (.int 5))) (mVar 3))) (gNameD 2)))))
  (sRet (mVar 2)))))
abbrev FD_mixed : M D := mFn 5 mD_mixed
abbrev mD_take : MS := (sSeq (sIf (mCmp dEq (mRest 0) (mPure (.int 0))) (sRest 0 (mIte (mLargeNe 0) (mLargePop 0) (mCallB 0 1 FD_mixed (mPure [])))) sNx)
  (sSeq (sAsg (mOp dMod (mCall gInt (mCons (mRest 0) (mPure []))) (mVar 1)) (gNameD 2))
  (sSeq (sRest 0 (mOp dDiv (mCall gInt (mCons (mRest 0) (mPure []))) (mVar 1)))
  (sRet (mVar 2)))))
abbrev FD_take : M D := mFn 1 mD_take
abbrev mD_pick : MS := (sRet (mOp dIx (mVar 1) (mCallB 0 2 FD_take (mCons (mCall gLen (mCons (mVar 1) (mPure []))) (mPure [])))))
abbrev FD_pick : M D := mFn 0 mD_pick
theorem dMod_pos {i j : Int} (h : 0 < j) : dMod (.int i) (.int j) = some (.int (i % j)) := by
  show (if decide (0 < j) = true then some (D.int (i % j)) else none) = _
  rw [if_pos (decide_eq_true h)]
theorem dDiv_pos {i j : Int} (h : 0 < j) (h2 : j.natAbs.log2 < 9000) : dDiv (.int i) (.int j) = some (.int (i / j)) := by
  show (if (decide (0 < j) && decide (j.natAbs.log2 < 9000)) = true then some (D.int (i / j)) else none) = _
  rw [decide_eq_true h, decide_eq_true h2] <;> rfl
theorem dMul_r {i j : Int} (h : j.natAbs < 18446744073709551616) : dMul (.int i) (.int j) = some (.int (i * j)) := by
  show (if (decide (i.natAbs < 18446744073709551616) || decide (j.natAbs < 18446744073709551616)) = true then some (D.int (i * j)) else none) = _
  rw [decide_eq_true h, Bool.or_true] <;> rfl
theorem dPow_ok {i j : Int} (h0 : 0 ≤ j) (h1 : j ≤ 1000000) (h2 : i.natAbs < 18446744073709551616) : dPow (.int i) (.int j) = some (.int (i ^ j.toNat)) := by
  show (if (decide (0 ≤ j) && decide (j ≤ 1000000) && decide (i.natAbs < 18446744073709551616)) = true then some (D.int (i ^ j.toNat)) else none) = _
  rw [decide_eq_true h0, decide_eq_true h1, decide_eq_true h2] <;> rfl
theorem mOp_ok {g : D → D → Option D} {m n : M D} {ρ ρ1 ρ2 : Env} {a b d : D} (h1 : m ρ = .ok a ρ1) (h2 : n ρ1 = .ok b ρ2) (h3 : g a b = some d) : mOp g m n ρ = .ok d ρ2 := by
  unfold mOp mBind
  rw [h1]
  show ((n ρ1).then fun b => mOpt (g a b)) = _
  rw [h2]
  show mOpt (g a b) ρ2 = _
  rw [h3] <;> rfl
theorem sAsg_ok {m : M D} {g : D → Env → Option Env} {ρ ρ1 ρ2 : Env} {d : D} (h1 : m ρ = .ok d ρ1) (h2 : g d ρ1 = some ρ2) : sAsg m g ρ = .nx ρ2 := by
  unfold sAsg
  rw [h1]
  show (match g d ρ1 with | some ρ'' => Fl.nx ρ'' | none => .bad) = _
  rw [h2]
theorem sSeq_ok {m n : MS} {ρ ρ1 : Env} (h : m ρ = .nx ρ1) : sSeq m n ρ = n ρ1 := by
  unfold sSeq
  rw [h]
abbrev bIn : MS := sAsg (mOp dMod (mOp dAdd (mOp dMul (mVar 4) (mPure (.int 48271))) (mCall gInt (mCons (mVar 5) (mPure [])))) (mVar 3)) (gNameD 4)
theorem inner_ok {d : Sl} {t f g : Int} (hg : 0 < g) : ∀ (cells : List Int) (b : Int) (s5 : Sl), 0 ≤ b → b < g → ∃ b' s5', 0 ≤ b' ∧ b' < g ∧ forL (gNameD 5) bIn (cells.map .int) [d, .dat (.int t), .dat (.int f), .dat (.int g), .dat (.int b), s5] = .nx [d, .dat (.int t), .dat (.int f), .dat (.int g), .dat (.int b'), s5']
  | [], b, s5, h1, h2 => ⟨b, s5, h1, h2, rfl⟩
  | c :: cells, b, s5, h1, h2 => by
    obtain ⟨b', s5', h3, h4, e⟩ := inner_ok (d := d) (t := t) (f := f) hg cells ((b * 48271 + c) % g) (.dat (.int c)) (Int.emod_nonneg _ (by omega)) (Int.emod_lt_of_pos _ hg)
    refine ⟨b', s5', h3, h4, ?_⟩
    have st : bIn [d, .dat (.int t), .dat (.int f), .dat (.int g), .dat (.int b), .dat (.int c)] = .nx [d, .dat (.int t), .dat (.int f), .dat (.int g), .dat (.int ((b * 48271 + c) % g)), .dat (.int c)] := by
      exact sAsg_ok (mOp_ok (mOp_ok (mOp_ok rfl rfl (dMul_r (by decide))) rfl rfl) rfl (dMod_pos hg)) rfl
    rw [List.map_cons]
    unfold forL
    show (match bIn [d, .dat (.int t), .dat (.int f), .dat (.int g), .dat (.int b), .dat (.int c)] with | .nx ρ2 => forL (gNameD 5) bIn (cells.map .int) ρ2 | .ct ρ2 => forL (gNameD 5) bIn (cells.map .int) ρ2 | .bk ρ2 => .nx ρ2 | o => o) = _
    rw [st]
    exact e

theorem sFor_ok {mi : M (List D)} {g : D → Env → Option Env} {b : MS} {ρ ρ1 : Env} {ds : List D} (h : mi ρ = .ok ds ρ1) : sFor mi g b ρ = forL g b ds ρ1 := by
  unfold sFor
  rw [h] <;> rfl
theorem mFn_rt {k : Nat} {mb : MS} {ss ρ' μ : Env} {d : D} (h : mb (ss ++ List.replicate k .un) = .rt d ρ') (h2 : exitL ss ρ' = some μ) : mFn k mb ss = .ok d μ := by
  unfold mFn
  rw [h]
  dsimp only
  rw [h2]
abbrev bOut : MS := sSeq (sAsg (mOp dMod (mOp dAdd (mOp dMul (mVar 1) (mPure (.int 69621))) (mOp dDiv (mVar 3) (mPure (.int 7)))) (mVar 3)) (gNameD 4))
  (sSeq (sFor (mItems (mCells 0)) (gNameD 5) bIn)
  (sAsg (mOp dAdd (mOp dMul (mVar 2) (mPure (.int 2147483647))) (mOp dMod (mOp dPow (mVar 4) (mPure (.int 5))) (mVar 3))) (gNameD 2)))
theorem outer_ok {io : Bool} {l c : List Int} {r tn t f g : Int} (s4 s5 : Sl) (hg : 0 < g) (hg2 : g ≤ 2147483629) : ∃ (f' : Int) (s4' s5' : Sl), bOut [.drw io l c r tn, .dat (.int t), .dat (.int f), .dat (.int g), s4, s5] = .nx [.drw io l c r tn, .dat (.int t), .dat (.int f'), .dat (.int g), s4', s5'] := by
  obtain ⟨b', s5', h3, h4, e⟩ := inner_ok (d := .drw io l c r tn) (t := t) (f := f) hg c ((t * 69621 + g / 7) % g) s5 (Int.emod_nonneg _ (by omega)) (Int.emod_lt_of_pos _ hg)
  refine ⟨f * 2147483647 + b' ^ 5 % g, .dat (.int b'), s5', ?_⟩
  have e1 : sAsg (mOp dMod (mOp dAdd (mOp dMul (mVar 1) (mPure (.int 69621))) (mOp dDiv (mVar 3) (mPure (.int 7)))) (mVar 3)) (gNameD 4) [.drw io l c r tn, .dat (.int t), .dat (.int f), .dat (.int g), s4, s5] = .nx [.drw io l c r tn, .dat (.int t), .dat (.int f), .dat (.int g), .dat (.int ((t * 69621 + g / 7) % g)), s5] :=
    sAsg_ok (mOp_ok (mOp_ok (mOp_ok rfl rfl (dMul_r (by decide))) (mOp_ok rfl rfl (dDiv_pos (by decide) (by decide))) rfl) rfl (dMod_pos hg)) rfl
  have e2 : sFor (mItems (mCells 0)) (gNameD 5) bIn [.drw io l c r tn, .dat (.int t), .dat (.int f), .dat (.int g), .dat (.int ((t * 69621 + g / 7) % g)), s5] = _ := (sFor_ok (ds := c.map .int) rfl).trans e
  unfold bOut
  rw [sSeq_ok e1, sSeq_ok e2]
  exact sAsg_ok (mOp_ok (mOp_ok rfl rfl (dMul_r (by decide))) (mOp_ok (mOp_ok rfl rfl (dPow_ok (by decide) (by decide) (by omega))) rfl (dMod_pos hg)) rfl) rfl
theorem mixed_ok {l c : List Int} {r t : Int} : ∃ z : Int, FD_mixed [.drw true l c r t] = .ok (.int z) [.drw true l c r (t + 1)] := by
  obtain ⟨f1, a1, b1, h1⟩ := outer_ok (io := true) (l := l) (c := c) (r := r) (tn := t + 1) (t := t + 1) (f := 0) (g := 2147483629) .un .un (by decide) (by decide)
  obtain ⟨f2, a2, b2, h2⟩ := outer_ok (io := true) (l := l) (c := c) (r := r) (tn := t + 1) (t := t + 1) (f := f1) (g := 2147483587) a1 b1 (by decide) (by decide)
  obtain ⟨f3, a3, b3, h3⟩ := outer_ok (io := true) (l := l) (c := c) (r := r) (tn := t + 1) (t := t + 1) (f := f2) (g := 2147483579) a2 b2 (by decide) (by decide)
  refine ⟨f3, ?_⟩
  have e1 : sTurn 0 (mOp dAdd (mTurn 0) (mPure (.int 1))) [.drw true l c r t, .un, .un, .un, .un, .un] = .nx [.drw true l c r (t + 1), .un, .un, .un, .un, .un] := rfl
  have e2 : sPar [1, 2] (mConsD (mCall gInt (mCons (mTurn 0) (mPure []))) (mConsD (mPure (.int 0)) (mPure []))) [.drw true l c r (t + 1), .un, .un, .un, .un, .un] = .nx [.drw true l c r (t + 1), .dat (.int (t + 1)), .dat (.int 0), .un, .un, .un] := rfl
  have e3 : forL (gNameD 3) bOut [.int 2147483629, .int 2147483587, .int 2147483579] [.drw true l c r (t + 1), .dat (.int (t + 1)), .dat (.int 0), .un, .un, .un] = .nx [.drw true l c r (t + 1), .dat (.int (t + 1)), .dat (.int f3), .dat (.int 2147483579), a3, b3] := by
    simp only [forL]
    show (match bOut [.drw true l c r (t + 1), .dat (.int (t + 1)), .dat (.int 0), .dat (.int 2147483629), .un, .un] with | .nx ρ2 => _ | .ct ρ2 => _ | .bk ρ2 => _ | o => _) = _
    rw [h1]
    show (match bOut [.drw true l c r (t + 1), .dat (.int (t + 1)), .dat (.int f1), .dat (.int 2147483587), a1, b1] with | .nx ρ2 => _ | .ct ρ2 => _ | .bk ρ2 => _ | o => _) = _
    rw [h2]
    show (match bOut [.drw true l c r (t + 1), .dat (.int (t + 1)), .dat (.int f2), .dat (.int 2147483579), a2, b2] with | .nx ρ2 => _ | .ct ρ2 => _ | .bk ρ2 => _ | o => _) = _
    rw [h3]
  have e4 : sFor (mItems (mFz (mLstX (mCons (mPure (.int 2147483629)) (mCons (mPure (.int 2147483587)) (mCons (mPure (.int 2147483579)) (mPure []))))))) (gNameD 3) bOut [.drw true l c r (t + 1), .dat (.int (t + 1)), .dat (.int 0), .un, .un, .un] = .nx [.drw true l c r (t + 1), .dat (.int (t + 1)), .dat (.int f3), .dat (.int 2147483579), a3, b3] := (sFor_ok (ds := [.int 2147483629, .int 2147483587, .int 2147483579]) rfl).trans e3
  have e : mD_mixed [.drw true l c r t, .un, .un, .un, .un, .un] = .rt (.int f3) [.drw true l c r (t + 1), .dat (.int (t + 1)), .dat (.int f3), .dat (.int 2147483579), a3, b3] := by
    unfold mD_mixed
    rw [sSeq_ok e1, sSeq_ok e2, sSeq_ok e4]
    rfl
  exact mFn_rt (k := 5) e rfl
end FW

set_option Elab.async false
set_option linter.all false
set_option maxRecDepth 100000
set_option maxHeartbeats 400000
/-! FW28: taking and picking. -/
namespace FW
open PySem PySem.Spec L2
theorem pyL_ints : ∀ ns : List Int, D.pyL (ns.map D.int) = some (ns.map PyData.int)
  | [] => rfl
  | n :: ns => by
    have e := pyL_ints ns
    rw [List.map_cons, D.pyL, e]
    rfl
theorem dEq_int {i j : Int} : dEq (.int i) (.int j) = some (i == j) := rfl
theorem canInts : ∀ ns : List Int, PyData.plainAll (ns.map PyData.int) = true
  | [] => rfl
  | n :: ns => by
    have e := canInts ns
    rw [List.map_cons, PyData.plainAll, e]
    rfl

theorem depthInts : ∀ ns : List Int, PyData.depthAll (ns.map PyData.int) = 0
  | [] => rfl
  | n :: ns => by
    have e := depthInts ns
    rw [List.map_cons, PyData.depthAll, e]
    rfl
theorem shapedInts (ns : List Int) : shp (.list (ns.map PyData.int)) = true := by
  unfold shp
  rw [PyData.plain, canInts, PyData.depth, depthInts]
  rfl
theorem largeNe (l : List Int) : dNe (.lst (l.map D.int)) (.lst []) = some (decide (l ≠ [])) := by
  unfold dNe dEq
  have e1 : D.py (.lst (l.map D.int)) = some (.list (l.map PyData.int)) := by
    rw [D.py, pyL_ints]
    rfl
  have e2 : D.py (.lst []) = some (.list []) := rfl
  rw [e1, e2]
  dsimp only
  rw [shapedInts, show shp (.list []) = true from rfl]
  cases l with
  | nil => rfl
  | cons x l => rfl
theorem mCallB_ok {j n : Nat} {F : M D} {ma : M (List D)} {ρ ρ1 μ : Env} {s0 s s' : Sl} {ds : List D} {d : D} (h0 : ρ[j]? = some s0) (h1 : s0.own = true) (h2 : ma ρ = .ok ds ρ1) (h3 : ρ1[j]? = some s) (h4 : (s.own && decide (ds.length + 1 = n)) = true) (h5 : F (s.setIo true :: dats ds) = .ok d (s' :: μ)) :
    mCallB j n F ma ρ = .ok d (ρ1.set j (s'.setIo s.io)) := by
  unfold mCallB mBind
  rw [h0]
  dsimp only
  rw [if_pos h1, h2]
  show (match ρ1[j]? with | some s => _ | none => _) = _
  rw [h3]
  dsimp only
  rw [if_pos h4, h5]
theorem sRet_ok {m : M D} {ρ ρ1 : Env} {d : D} (h : m ρ = .ok d ρ1) : sRet m ρ = .rt d ρ1 := by
  unfold sRet
  rw [h] <;> rfl
theorem sIf_ok {c : M Bool} {m n : MS} {ρ ρ1 : Env} {b : Bool} (h : c ρ = .ok b ρ1) : sIf c m n ρ = if b then m ρ1 else n ρ1 := by
  unfold sIf
  rw [h] <;> rfl
theorem mIte_ok {α : Type} {c : M Bool} {m n : M α} {ρ ρ1 : Env} {b : Bool} (h : c ρ = .ok b ρ1) : mIte c m n ρ = if b then m ρ1 else n ρ1 := by
  unfold mIte mBind
  rw [h]
  cases b <;> rfl
theorem mCmp_ok {g : D → D → Option Bool} {m n : M D} {ρ ρ1 ρ2 : Env} {a b : D} {d : Bool} (h1 : m ρ = .ok a ρ1) (h2 : n ρ1 = .ok b ρ2) (h3 : g a b = some d) : mCmp g m n ρ = .ok d ρ2 := by
  unfold mCmp mBind
  rw [h1]
  show ((n ρ1).then fun b => mOpt (g a b)) = _
  rw [h2]
  show mOpt (g a b) ρ2 = _
  rw [h3] <;> rfl
theorem sRest_ok {i : Nat} {m : M D} {ρ ρ1 : Env} {r r0 t : Int} {io : Bool} {l c : List Int} (h : m ρ = .ok (.int r) ρ1) (h2 : ρ1[i]? = some (.drw io l c r0 t)) : sRest i m ρ = .nx (ρ1.set i (.drw io l c r t)) := by
  unfold sRest
  rw [h]
  show (match (D.int r), ρ1[i]? with | .int r, some (.drw io l c _ t) => Fl.nx (ρ1.set i (.drw io l c r t)) | _, _ => .bad) = _
  rw [h2]
/-- a draw below n -/
theorem take_ok {l c : List Int} {r t n : Int} (hn : 0 < n) (hl : n.natAbs.log2 < 9000) : ∃ (z : Int) (l' : List Int) (r' t' : Int), 0 ≤ z ∧ z < n ∧ FD_take [.drw true l c r t, .dat (.int n)] = .ok (.int z) [.drw true l' c r' t', .dat (.int n)] := by
  have first : ∃ (l' : List Int) (r' t' : Int), (sIf (mCmp dEq (mRest 0) (mPure (.int 0))) (sRest 0 (mIte (mLargeNe 0) (mLargePop 0) (mCallB 0 1 FD_mixed (mPure [])))) sNx) [.drw true l c r t, .dat (.int n), .un] = .nx [.drw true l' c r' t', .dat (.int n), .un] := by
    have hc : mCmp dEq (mRest 0) (mPure (.int 0)) [.drw true l c r t, .dat (.int n), .un] = .ok (r == 0) [.drw true l c r t, .dat (.int n), .un] := mCmp_ok rfl rfl dEq_int
    rw [sIf_ok hc]
    by_cases h : (r == 0) = true
    · rw [if_pos h]
      have ne : mLargeNe 0 [.drw true l c r t, .dat (.int n), .un] = .ok (decide (l ≠ [])) [.drw true l c r t, .dat (.int n), .un] := by
        show (match dNe (.lst (l.map .int)) (.lst []) with | some b => Out.ok b [.drw true l c r t, .dat (.int n), .un] | none => .bad) = _
        rw [largeNe]
      cases l with
      | nil =>
        obtain ⟨z, hz⟩ := mixed_ok (l := []) (c := c) (r := r) (t := t)
        refine ⟨[], z, t + 1, ?_⟩
        refine (sRest_ok (i := 0) (ρ1 := [.drw true [] c r (t + 1), .dat (.int n), .un]) (r := z) ?_ rfl).trans rfl
        rw [mIte_ok ne]
        exact (mCallB_ok (j := 0) (n := 1) (s0 := .drw true [] c r t) (s := .drw true [] c r t) (ds := []) (ρ1 := [.drw true [] c r t, .dat (.int n), .un]) rfl rfl rfl rfl rfl hz).trans rfl
      | cons x l =>
        refine ⟨l, x, t, ?_⟩
        refine (sRest_ok (i := 0) (ρ1 := [.drw true l c r t, .dat (.int n), .un]) (r := x) ?_ rfl).trans rfl
        rw [mIte_ok ne]
        rfl
    · rw [if_neg h]
      exact ⟨l, r, t, rfl⟩
  obtain ⟨l', r', t', e1⟩ := first
  refine ⟨r' % n, l', r' / n, t', Int.emod_nonneg _ (by omega), Int.emod_lt_of_pos _ hn, ?_⟩
  refine mFn_rt (k := 1) (ρ' := [.drw true l' c (r' / n) t', .dat (.int n), .dat (.int (r' % n))]) ?_ rfl
  show mD_take [.drw true l c r t, .dat (.int n), .un] = _
  have e2 : sAsg (mOp dMod (mCall gInt (mCons (mRest 0) (mPure []))) (mVar 1)) (gNameD 2) [.drw true l' c r' t', .dat (.int n), .un] = .nx [.drw true l' c r' t', .dat (.int n), .dat (.int (r' % n))] := sAsg_ok (mOp_ok rfl rfl (dMod_pos hn)) rfl
  have e3 : sRest 0 (mOp dDiv (mCall gInt (mCons (mRest 0) (mPure []))) (mVar 1)) [.drw true l' c r' t', .dat (.int n), .dat (.int (r' % n))] = .nx [.drw true l' c (r' / n) t', .dat (.int n), .dat (.int (r' % n))] := (sRest_ok (mOp_ok rfl rfl (dDiv_pos hn hl)) rfl).trans rfl
  unfold mD_take
  rw [sSeq_ok e1, sSeq_ok e2, sSeq_ok e3]
  rfl

theorem atI_ok {xs : List D} {z : Int} (h0 : 0 ≤ z) (h1 : z < xs.length) : ∃ x ∈ xs, atI xs z = some x := by
  obtain ⟨k, rfl⟩ := Int.eq_ofNat_of_zero_le h0
  have hk : k < xs.length := by omega
  refine ⟨xs[k], List.getElem_mem hk, ?_⟩
  unfold atI ixN
  simp [hk, List.getElem?_eq_getElem hk]
/-- one of the items -/
theorem pick_ok {xs : List D} {l c : List Int} {r t : Int} (hx : xs ≠ []) (hl : xs.length.log2 < 9000) : ∃ x ∈ xs, ∃ (l' : List Int) (r' t' : Int), FD_pick [.drw true l c r t, .dat (.lst xs)] = .ok x [.drw true l' c r' t', .dat (.lst xs)] := by
  have hp : 0 < xs.length := List.length_pos_iff.mpr hx
  obtain ⟨z, l', r', t', h0, h1, e⟩ := take_ok (l := l) (c := c) (r := r) (t := t) (n := (xs.length : Int)) (by omega) (by simpa using hl)
  obtain ⟨x, hm, ex⟩ := atI_ok (xs := xs) h0 h1
  refine ⟨x, hm, l', r', t', mFn_rt (k := 0) (ρ' := [.drw true l' c r' t', .dat (.lst xs)]) ?_ rfl⟩
  have e2 : mCallB 0 2 FD_take (mCons (mCall gLen (mCons (mVar 1) (mPure []))) (mPure [])) [.drw true l c r t, .dat (.lst xs)] = .ok (.int z) [.drw true l' c r' t', .dat (.lst xs)] :=
    (mCallB_ok (j := 0) (n := 2) (s0 := .drw true l c r t) (s := .drw true l c r t) (ds := [.int xs.length]) (ρ1 := [.drw true l c r t, .dat (.lst xs)]) rfl rfl rfl rfl rfl e).trans rfl
  show mD_pick [.drw true l c r t, .dat (.lst xs)] = _
  unfold mD_pick
  exact sRet_ok (mOp_ok (a := .lst xs) (ρ1 := [.drw true l c r t, .dat (.lst xs)]) rfl e2 ex)
/-- the draws stand in slot j -/
def DrwAt (j : Nat) (ρ : Env) : Prop := ∃ io l c r t, ρ[j]? = some (.drw io l c r t)
theorem DrwAt.set {j : Nat} {ρ : Env} (h : DrwAt j ρ) {io : Bool} {l c : List Int} {r t : Int} : DrwAt j (ρ.set j (.drw io l c r t)) := by
  obtain ⟨_, _, _, _, _, e⟩ := h
  have hi : j < ρ.length := (List.getElem?_eq_some_iff.mp e).1
  exact ⟨io, l, c, r, t, List.getElem?_set_self hi⟩
theorem call_take {j : Nat} {ρ ρ1 : Env} {ma : M (List D)} {n : Int} (h : DrwAt j ρ) (h1 : DrwAt j ρ1) (ha : ma ρ = .ok [.int n] ρ1) (hn : 0 < n) (hl : n.natAbs.log2 < 9000) : ∃ (z : Int) (s : Sl), 0 ≤ z ∧ z < n ∧ mCallB j 2 FD_take ma ρ = .ok (.int z) (ρ1.set j s) ∧ DrwAt j (ρ1.set j s) := by
  obtain ⟨io, l, c, r, t, e⟩ := h
  obtain ⟨io1, l1, c1, r1, t1, e1⟩ := h1
  obtain ⟨z, l', r', t', h0, h2, e2⟩ := take_ok (l := l1) (c := c1) (r := r1) (t := t1) hn hl
  exact ⟨z, .drw io1 l' c1 r' t', h0, h2, mCallB_ok (n := 2) e rfl ha e1 rfl e2, DrwAt.set ⟨io1, l1, c1, r1, t1, e1⟩⟩
theorem call_pick {j : Nat} {ρ ρ1 : Env} {ma : M (List D)} {xs : List D} (h : DrwAt j ρ) (h1 : DrwAt j ρ1) (ha : ma ρ = .ok [.lst xs] ρ1) (hx : xs ≠ []) (hl : xs.length.log2 < 9000) : ∃ x ∈ xs, ∃ s : Sl, mCallB j 2 FD_pick ma ρ = .ok x (ρ1.set j s) ∧ DrwAt j (ρ1.set j s) := by
  obtain ⟨io, l, c, r, t, e⟩ := h
  obtain ⟨io1, l1, c1, r1, t1, e1⟩ := h1
  obtain ⟨x, hm, l', r', t', e2⟩ := pick_ok (l := l1) (c := c1) (r := r1) (t := t1) hx hl
  exact ⟨x, hm, .drw io1 l' c1 r' t', mCallB_ok (n := 2) e rfl ha e1 rfl e2, DrwAt.set ⟨io1, l1, c1, r1, t1, e1⟩⟩
end FW

set_option Elab.async false
set_option linter.all false
set_option maxRecDepth 100000
set_option maxHeartbeats 400000
/-! FW29: weakest wishes of the mirrors: rules for simp, from the outside in. -/
namespace FW
open PySem PySem.Spec L2
variable [Tc]

abbrev EP := Str → List (Str × D) → Env → Prop
def outW {α : Type} (o : Out α) (Q : α → Env → Prop) (E : EP) : Prop := match o with
  | .ok a ρ => Q a ρ | .err c fs ρ => E c fs ρ | .bad => False
/-- a mark: what it speaks of stays as it is when the rest is rewritten -/
inductive Tg {α : Sort _} (a : α) : Type
  | t : Tg a
@[irreducible] def wpE {α : Type} (m : M α) (ρ : Env) (Q : α → Env → Prop) (E : EP) (_t : Tg m := .t) (_u : Tg Q := .t) (_v : Tg E := .t) : Prop := outW (m ρ) Q E
structure SP where
  nx : Env → Prop
  rt : D → Env → Prop
  bk : Env → Prop
  ct : Env → Prop
  er : EP
/-- with another wish for what comes next -/
def SP.wn (P : SP) (f : Env → Prop) : SP := ⟨f, P.rt, P.bk, P.ct, P.er⟩
/-- the wishes in a loop's turn: f for the next turn -/
def SP.wl (P : SP) (f : Env → Prop) : SP := ⟨f, P.rt, P.nx, f, P.er⟩
def flW (o : Fl) (P : SP) : Prop := match o with
  | .nx ρ => P.nx ρ | .rt d ρ => P.rt d ρ | .bk ρ => P.bk ρ | .ct ρ => P.ct ρ | .err c fs ρ => P.er c fs ρ | .bad => False
@[irreducible] def wpS (s : MS) (ρ : Env) (P : SP) (_t : Tg s := .t) (_u : Tg P := .t) : Prop := flW (s ρ) P
@[irreducible] def wpO {α : Type} (o : Option α) (Q : α → Prop) (_t : Tg Q := .t) : Prop := match o with | some a => Q a | none => False
def wpB (b : Bool) (P R : Prop) (_t : Tg P := .t) (_u : Tg R := .t) : Prop := (b = true → P) ∧ (b = false → R)
/-- a place's things in plain form first -/
def wpN (ρ : Env) (Q : Env → Prop) (_t : Tg Q := .t) : Prop := Q ρ
theorem w_N {ρ : Env} {Q : Env → Prop} : wpN ρ Q = Q ρ := by with_unfolding_all exact id rfl
/-- some data in plain form first -/
def wpM (l : List D) (Q : List D → Prop) (_t : Tg Q := .t) : Prop := Q l
theorem w_M {l : List D} {Q : List D → Prop} : wpM l Q = Q l := by with_unfolding_all exact id rfl
def pk (o : Option D) (r : List D) : List D := match o with | some a => a :: r | none => r
theorem pk_some {a : D} {r : List D} : pk (some a) r = a :: r := by with_unfolding_all exact id rfl
theorem pick_nil {l : List D} : pick [] l = [] := by with_unfolding_all exact id rfl
theorem pick_cons {i : Nat} {π : List Nat} {l : List D} : pick (i :: π) l = pk l[i]? (pick π l) := by
  with_unfolding_all
    unfold pick
    rw [List.filterMap_cons]
    cases l[i]? <;> rfl
theorem n_nx {P : SP} {f : Env → Prop} {ρ : Env} : (P.wn f).nx ρ = f ρ := by with_unfolding_all exact id rfl
theorem n_rt {P : SP} {f : Env → Prop} {d : D} {ρ : Env} : (P.wn f).rt d ρ = P.rt d ρ := by with_unfolding_all exact id rfl
theorem n_bk {P : SP} {f : Env → Prop} {ρ : Env} : (P.wn f).bk ρ = P.bk ρ := by with_unfolding_all exact id rfl
theorem n_ct {P : SP} {f : Env → Prop} {ρ : Env} : (P.wn f).ct ρ = P.ct ρ := by with_unfolding_all exact id rfl
theorem n_er {P : SP} {f : Env → Prop} {c : Str} {fs : List (Str × D)} {ρ : Env} : (P.wn f).er c fs ρ = P.er c fs ρ := by with_unfolding_all exact id rfl
theorem l_nx {P : SP} {f : Env → Prop} {ρ : Env} : (P.wl f).nx ρ = f ρ := by with_unfolding_all exact id rfl
theorem l_rt {P : SP} {f : Env → Prop} {d : D} {ρ : Env} : (P.wl f).rt d ρ = P.rt d ρ := by with_unfolding_all exact id rfl
theorem l_bk {P : SP} {f : Env → Prop} {ρ : Env} : (P.wl f).bk ρ = P.nx ρ := by with_unfolding_all exact id rfl
theorem l_ct {P : SP} {f : Env → Prop} {ρ : Env} : (P.wl f).ct ρ = f ρ := by with_unfolding_all exact id rfl
theorem l_er {P : SP} {f : Env → Prop} {c : Str} {fs : List (Str × D)} {ρ : Env} : (P.wl f).er c fs ρ = P.er c fs ρ := by with_unfolding_all exact id rfl
/-- the wish at a slot that is read as data -/
def wpV (o : Option Sl) (i : Nat) (ρ : Env) (Q : D → Env → Prop) (_t : Tg ρ := .t) (_u : Tg Q := .t) : Prop := match o with
  | some (.dat d) => Q d ρ
  | some (.lst false xs) => wpN (ρ.set i (.dat (.lst xs))) fun ρ' => Q (.lst xs) ρ'
  | some (.dct false xs) => wpN (ρ.set i (.dat (.dK xs))) fun ρ' => Q (.dK xs) ρ'
  | _ => False
@[irreducible] def wpC (vs : List Nat) (g : D → Env → Option Env) (mt : M Bool) (me : M D) (ds : List D) (ρ : Env) (acc : List D) (Q : List D → Env → Prop) (_1 : Tg g := .t) (_2 : Tg mt := .t) (_3 : Tg me := .t) (_4 : Tg Q := .t) : Prop := match compL vs g mt me ds ρ acc with | .ok ys ρ' => Q ys ρ' | _ => False
@[irreducible] def wpL (g : D → Env → Option Env) (b : MS) (ds : List D) (ρ : Env) (P : SP) (_1 : Tg g := .t) (_2 : Tg b := .t) (_3 : Tg P := .t) : Prop := flW (forL g b ds ρ) P
def wpA (c : Prop) (P : Prop) (_t : Tg P := .t) : Prop := c ∧ P


section
variable {α β : Type} {ρ ρ' : Env} {E : EP} {P : SP}
theorem wpE_ext {m : M α} {Q Q' : α → Env → Prop} (h : ∀ a ρ1, Q a ρ1 = Q' a ρ1) : wpE m ρ Q E = wpE m ρ Q' E := by
  with_unfolding_all
    have e : Q = Q' := funext fun a => funext fun ρ1 => h a ρ1
    subst e; rfl
theorem wpB_ext {b : Bool} {X X' Y Y' : Prop} (h : X = X') (h' : Y = Y') : wpB b X Y = wpB b X' Y' := by
  with_unfolding_all
    subst h h'; rfl
theorem wpO_ext {o : Option α} {Q Q' : α → Prop} (h : ∀ a, Q a = Q' a) : wpO o Q = wpO o Q' := by
  with_unfolding_all
    have e : Q = Q' := funext h
    subst e; rfl
theorem w_some {a : α} {Q : α → Prop} : wpO (some a) Q = Q a := by with_unfolding_all exact id rfl
theorem w_none {Q : α → Prop} : wpO (none : Option α) Q = False := by with_unfolding_all exact id rfl
theorem w_oiten {c : Prop} [Decidable c] {x : Option α} {Q : α → Prop} : wpO (if c then x else none) Q = wpA c (wpO x Q) := by
  with_unfolding_all
    by_cases h : c <;> simp [h, wpA, wpO]
theorem w_oite {c : Prop} [Decidable c] {x y : Option α} {Q : α → Prop} : wpO (if c then x else y) Q = wpB (decide c) (wpO x Q) (wpO y Q) := by
  with_unfolding_all
    unfold wpB
    by_cases h : c <;> simp [h]
theorem w_omap {f : α → β} {x : Option α} {Q : β → Prop} : wpO (x.map f) Q = wpO x fun a => Q (f a) := by with_unfolding_all (cases x <;> rfl)
theorem w_obind {f : α → Option β} {x : Option α} {Q : β → Prop} : wpO (x.bind f) Q = wpO x fun a => wpO (f a) Q := by with_unfolding_all (cases x <;> rfl)
theorem w_bt {p q : Prop} : wpB true p q = p := by with_unfolding_all (simp [wpB])
theorem w_bf {p q : Prop} : wpB false p q = q := by with_unfolding_all (simp [wpB])
theorem w_bF {b : Bool} {p : Prop} : wpB b p False = wpA (b = true) p := by with_unfolding_all (cases b <;> simp [wpB, wpA])
theorem w_bF2 {b : Bool} {p : Prop} : wpB b False p = wpA (b = false) p := by with_unfolding_all (cases b <;> simp [wpB, wpA])
theorem w_at {p : Prop} : wpA True p = p := by with_unfolding_all (simp [wpA])
theorem w_vd {d : D} {i : Nat} {Q : D → Env → Prop} : wpV (some (.dat d)) i ρ Q = Q d ρ := by with_unfolding_all exact id rfl
theorem w_vl {xs : List D} {i : Nat} {Q : D → Env → Prop} : wpV (some (.lst false xs)) i ρ Q = wpN (ρ.set i (.dat (.lst xs))) fun ρ' => Q (.lst xs) ρ' := by with_unfolding_all exact id rfl
theorem w_vk {xs : List (Key × D)} {i : Nat} {Q : D → Env → Prop} : wpV (some (.dct false xs)) i ρ Q = wpN (ρ.set i (.dat (.dK xs))) fun ρ' => Q (.dK xs) ρ' := by with_unfolding_all exact id rfl

theorem w_pure {a : α} {Q : α → Env → Prop} : wpE (mPure a) ρ Q E = Q a ρ := by with_unfolding_all exact id rfl
theorem w_bind {m : M α} {k : α → M β} {Q : β → Env → Prop} : wpE (mBind m k) ρ Q E = wpE m ρ (fun a ρ1 => wpE (k a) ρ1 Q E) E := by
  with_unfolding_all
    unfold wpE mBind Out.then
    cases m ρ <;> rfl
theorem w_bif {b : Bool} {m n : M α} {Q : α → Env → Prop} : wpE (if b = true then m else n) ρ Q E = wpB b (wpE m ρ Q E) (wpE n ρ Q E) := by
  with_unfolding_all
    cases b <;> simp [wpB]
theorem w_opt {o : Option α} {Q : α → Env → Prop} : wpE (mOpt o) ρ Q E = wpO o fun a => Q a ρ := by with_unfolding_all (cases o <;> rfl)
theorem w_var {i : Nat} {Q : D → Env → Prop} : wpE (mVar i) ρ Q E = wpV ρ[i]? i ρ Q := by
  with_unfolding_all
    unfold wpE mVar wpV
    generalize ρ[i]? = o
    cases o with
    | none => rfl
    | some s => cases s with
      | un => rfl
      | dat d => rfl
      | lst io xs => cases io <;> rfl
      | dct io xs => cases io <;> rfl
      | drw _ _ _ _ _ => rfl
local macro_rules | `(tactic| walk_at "wx") => `(tactic| repeat (first | rfl | (refine wpB_ext ?_ ?_) | (rw [w_bind, w_opt]; refine wpO_ext fun _ => ?_) | (rw [w_bind]; refine wpE_ext fun _ _ => ?_) | (rw [w_opt]) | (rw [w_pure]) | (rw [w_bif]) | (rw [w_omap]) | (refine wpO_ext fun _ => ?_)))
theorem w_cons {m : M D} {n : M (List D)} {Q : List D → Env → Prop} : wpE (mCons m n) ρ Q E = wpE m ρ (fun a ρ1 => wpE n ρ1 (fun ds ρ2 => Q (a :: ds) ρ2) E) E := by
  with_unfolding_all
    unfold mCons
    walk_at "wx"
theorem w_op {g : D → D → Option D} {m n : M D} {Q : D → Env → Prop} : wpE (mOp g m n) ρ Q E = wpE m ρ (fun a ρ1 => wpE n ρ1 (fun b ρ2 => wpO (g a b) fun d => Q d ρ2) E) E := by
  with_unfolding_all
    unfold mOp
    walk_at "wx"
theorem w_cmp {g : D → D → Option Bool} {m n : M D} {Q : Bool → Env → Prop} : wpE (mCmp g m n) ρ Q E = wpE m ρ (fun a ρ1 => wpE n ρ1 (fun b ρ2 => wpO (g a b) fun d => Q d ρ2) E) E := by
  with_unfolding_all
    unfold mCmp
    walk_at "wx"
theorem w_bl {m : M Bool} {Q : D → Env → Prop} : wpE (mBl m) ρ Q E = wpE m ρ (fun b ρ1 => Q (.bl b) ρ1) E := by
  with_unfolding_all
    unfold mBl
    walk_at "wx"
theorem w_chain {g g' : D → D → Option Bool} {m n k : M D} {Q : Bool → Env → Prop} : wpE (mChain g g' m n k) ρ Q E = wpE m ρ (fun a ρ1 => wpE n ρ1 (fun b ρ2 => wpO (g a b) fun c => wpB c (wpE k ρ2 (fun d ρ3 => wpO (g' b d) fun e => Q e ρ3) E) (Q false ρ2)) E) E := by
  with_unfolding_all
    unfold mChain
    walk_at "wx"
theorem w_chainV {g g' : D → D → Option Bool} {m n k : M D} {Q : D → Env → Prop} : wpE (mChainV g g' m n k) ρ Q E = wpE m ρ (fun a ρ1 => wpE n ρ1 (fun b ρ2 => wpO (g a b) fun c => wpB c (wpE k ρ2 (fun d ρ3 => wpO (g' b d) fun e => Q (.bl e) ρ3) E) (Q (.bl false) ρ2)) E) E := by
  with_unfolding_all
    unfold mChainV
    walk_at "wx"
theorem w_tru {m : M D} {Q : Bool → Env → Prop} : wpE (mTru m) ρ Q E = wpE m ρ (fun d ρ1 => wpO (dTru d) fun b => Q b ρ1) E := by
  with_unfolding_all
    unfold mTru
    walk_at "wx"
theorem w_and {m n : M Bool} {Q : Bool → Env → Prop} : wpE (mAnd m n) ρ Q E = wpE m ρ (fun b ρ1 => wpB b (wpE n ρ1 Q E) (Q false ρ1)) E := by
  with_unfolding_all
    unfold mAnd
    walk_at "wx"
theorem w_or {m n : M Bool} {Q : Bool → Env → Prop} : wpE (mOr m n) ρ Q E = wpE m ρ (fun b ρ1 => wpB b (Q true ρ1) (wpE n ρ1 Q E)) E := by
  with_unfolding_all
    unfold mOr
    walk_at "wx"
theorem w_not {m : M Bool} {Q : Bool → Env → Prop} : wpE (mNot m) ρ Q E = wpE m ρ (fun b ρ1 => Q (!b) ρ1) E := by
  with_unfolding_all
    unfold mNot
    walk_at "wx"
theorem w_andV {m n : M D} {Q : D → Env → Prop} : wpE (mAndV m n) ρ Q E = wpE m ρ (fun d ρ1 => wpO (dTru d) fun b => wpB b (wpE n ρ1 Q E) (Q d ρ1)) E := by
  with_unfolding_all
    unfold mAndV
    walk_at "wx"
theorem w_orV {m n : M D} {Q : D → Env → Prop} : wpE (mOrV m n) ρ Q E = wpE m ρ (fun d ρ1 => wpO (dTru d) fun b => wpB b (Q d ρ1) (wpE n ρ1 Q E)) E := by
  with_unfolding_all
    unfold mOrV
    walk_at "wx"
theorem w_ite {c : M Bool} {m n : M α} {Q : α → Env → Prop} : wpE (mIte c m n) ρ Q E = wpE c ρ (fun b ρ1 => wpB b (wpE m ρ1 Q E) (wpE n ρ1 Q E)) E := by
  with_unfolding_all
    unfold mIte
    walk_at "wx"
theorem w_tup {m : M (List D)} {Q : D → Env → Prop} : wpE (mTup m) ρ Q E = wpE m ρ (fun ds ρ1 => wpA (ds.length ≤ 1000) (Q (.tup ds) ρ1)) E := by
  with_unfolding_all
    unfold mTup
    rw [w_bind]
    refine wpE_ext fun ds ρ1 => ?_
    rw [w_opt]
    by_cases h : ds.length ≤ 1000 <;> simp [h, wpO, wpA]
theorem w_lstX {m : M (List D)} {Q : Sl → Env → Prop} : wpE (mLstX m) ρ Q E = wpE m ρ (fun ds ρ1 => wpA (ds.length ≤ 1000) (Q (.lst false ds) ρ1)) E := by
  with_unfolding_all
    unfold mLstX
    rw [w_bind]
    refine wpE_ext fun ds ρ1 => ?_
    rw [w_opt]
    by_cases h : ds.length ≤ 1000 <;> simp [h, wpO, wpA]
theorem w_fz {m : M Sl} {Q : D → Env → Prop} : wpE (mFz m) ρ Q E = wpE m ρ (fun s ρ1 => wpO (dOf s) fun d => Q d ρ1) E := by
  with_unfolding_all
    unfold mFz
    walk_at "wx"
theorem w_call {g : List D → Option D} {m : M (List D)} {Q : D → Env → Prop} : wpE (mCall g m) ρ Q E = wpE m ρ (fun ds ρ1 => wpO (g ds) fun d => Q d ρ1) E := by
  with_unfolding_all
    unfold mCall
    walk_at "wx"
theorem w_callF {n : Nat} {F : M D} {m : M (List D)} {Q : D → Env → Prop} : wpE (mCallF n F m) ρ Q E = wpE m ρ (fun ds ρ1 => wpA (ds.length = n) (wpE F (dats ds) (fun d _ => Q d ρ1) fun c fs _ => E c fs ρ1)) E := by
  with_unfolding_all
    unfold mCallF
    rw [w_bind]
    refine wpE_ext fun ds ρ1 => ?_
    unfold wpE
    by_cases h : ds.length = n
    · simp only [h, if_true, wpA, true_and]
      cases F (dats ds) <;> rfl
    · simp [h, wpA, outW]
theorem w_callX {n : Nat} {F : M Sl} {m : M (List D)} {Q : Sl → Env → Prop} : wpE (mCallX n F m) ρ Q E = wpE m ρ (fun ds ρ1 => wpA (ds.length = n) (wpE F (dats ds) (fun d _ => Q d ρ1) fun c fs _ => E c fs ρ1)) E := by
  with_unfolding_all
    unfold mCallX
    rw [w_bind]
    refine wpE_ext fun ds ρ1 => ?_
    unfold wpE
    by_cases h : ds.length = n
    · simp only [h, if_true, wpA, true_and]
      cases F (dats ds) <;> rfl
    · simp [h, wpA, outW]
theorem w_callK {np n k : Nat} {π : List Nat} {F : M D} {ma mk : M (List D)} {Q : D → Env → Prop} : wpE (mCallK np n k π F ma mk) ρ Q E =
    wpE ma ρ (fun ds ρ1 => wpE mk ρ1 (fun es ρ2 => wpA (ds.length = n ∧ es.length = k) (wpM (pick π (ds ++ es)) fun l => wpA (l.length = np) (wpE F (dats l) (fun d _ => Q d ρ2) fun c fs _ => E c fs ρ2))) E) E := by
  with_unfolding_all
    unfold mCallK
    rw [w_callF, w_bind]
    refine wpE_ext fun ds ρ1 => ?_
    rw [w_bind]
    refine wpE_ext fun es ρ2 => ?_
    rw [w_opt]
    by_cases h : ds.length = n ∧ es.length = k <;> simp [h, wpO, wpA, wpM]
theorem w_isi {cs : List String} {m : M D} {Q : D → Env → Prop} : wpE (mIsi cs m) ρ Q E = wpE m ρ (fun d ρ1 => wpO (dIsi cs d) fun b => Q (.bl b) ρ1) E := by
  with_unfolding_all
    unfold mIsi
    walk_at "wx"
theorem w_isC {ys ns : List Str} {m : M D} {Q : D → Env → Prop} : wpE (mIsC ys ns m) ρ Q E = wpE m ρ (fun d ρ1 => wpO (dIsC ys ns d) fun b => Q (.bl b) ρ1) E := by
  with_unfolding_all
    unfold mIsC
    walk_at "wx"
theorem w_fldN {ns : List Str} {f : Str} {m : M D} {Q : D → Env → Prop} : wpE (mFldN ns f m) ρ Q E = wpE m ρ (fun d ρ1 => wpO (dFldN ns f d) fun b => Q b ρ1) E := by
  with_unfolding_all
    unfold mFldN
    walk_at "wx"
theorem w_err1 {n f : Str} {m : M D} {Q : Str × List (Str × D) → Env → Prop} : wpE (mErr1 n f m) ρ Q E = wpE m ρ (fun d ρ1 => Q (n, [(f, d)]) ρ1) E := by
  with_unfolding_all
    unfold mErr1
    walk_at "wx"
theorem w_caught {ns : List Str} {m : M D} {Q : D → Env → Prop} : wpE (mCaught ns m) ρ Q E = wpE m ρ (fun _ ρ1 => Q .non ρ1) fun c fs ρ1 => wpA (ns.contains c = true) (Q (.exc c fs) ρ1) := by
  with_unfolding_all
    unfold wpE mCaught
    cases m ρ with
    | ok a ρ1 => rfl
    | err c fs ρ1 =>
      unfold outW wpA
      dsimp only
      by_cases h : ns.contains c = true
      · rw [if_pos h]
        exact propext ⟨fun q => ⟨h, q⟩, fun q => q.2⟩
      · rw [if_neg h]
        exact propext ⟨False.elim, fun q => h q.1⟩
    | bad => rfl
theorem w_range1 {m : M (List D)} {Q : List D → Env → Prop} : wpE (mRange1 m) ρ Q E = wpE m ρ (fun ds ρ1 => wpO (match ds with | [.int j] => if -(2 ^ 62) ≤ j ∧ j < 2 ^ 62 then some (rangeD 0 j.toNat) else none | _ => none) fun ys => Q ys ρ1) E := by
  with_unfolding_all
    unfold mRange1
    walk_at "wx"
theorem w_range2 {m : M (List D)} {Q : List D → Env → Prop} : wpE (mRange2 m) ρ Q E = wpE m ρ (fun ds ρ1 => wpO (match ds with | [.int i, .int j] => if -(2 ^ 62) ≤ i ∧ i < 2 ^ 62 ∧ -(2 ^ 62) ≤ j ∧ j < 2 ^ 62 then some (rangeD i (j - i).toNat) else none | _ => none) fun ys => Q ys ρ1) E := by
  with_unfolding_all
    unfold mRange2
    walk_at "wx"
theorem w_enum {m : M D} {Q : List D → Env → Prop} : wpE (mEnum m) ρ Q E = wpE m ρ (fun d ρ1 => wpO (match d with | .lst xs => some (enumD 0 xs) | .rol xs => some (enumD 0 xs) | _ => none) fun ys => Q ys ρ1) E := by
  with_unfolding_all
    unfold mEnum
    walk_at "wx"
theorem w_items {m : M D} {Q : List D → Env → Prop} : wpE (mItems m) ρ Q E = wpE m ρ (fun d ρ1 => wpO (dItems d) fun ys => Q ys ρ1) E := by
  with_unfolding_all
    unfold mItems
    walk_at "wx"
theorem w_consD {m : M D} {n : M (List Sl)} {Q : List Sl → Env → Prop} : wpE (mConsD m n) ρ Q E = wpE m ρ (fun a ρ1 => wpE n ρ1 (fun ds ρ2 => Q (.dat a :: ds) ρ2) E) E := by
  with_unfolding_all
    unfold mConsD
    walk_at "wx"
theorem w_lc {vs : List Nat} {mi : M (List D)} {g : D → Env → Option Env} {mt : M Bool} {me : M D} {Q : Sl → Env → Prop} : wpE (mLc vs mi g mt me) ρ Q E =
    wpE mi ρ (fun ds ρ1 => wpA (ds.length ≤ sizeLine) (wpA (freeAll vs ρ1 = true) (wpO (wipeE vs ρ1) fun ρ0 => wpC vs g mt me ds ρ0 [] fun ys ρ2 => wpA (freeAll vs ρ2 = true) (wpN (backE ρ1 vs ρ2) fun ρ3 => Q (.lst false ys) ρ3)))) E := by
  with_unfolding_all
    unfold mLc
    rw [w_bind]
    refine wpE_ext fun ds ρ1 => ?_
    unfold wpE wpA
    by_cases h : ds.length ≤ sizeLine
    · cases h2 : freeAll vs ρ1 with
      | true =>
        simp only [h, h2, decide_true, Bool.and_self, if_true, true_and]
        cases h3 : wipeE vs ρ1 with
        | none => rfl
        | some ρ0 =>
          unfold wpO wpC
          dsimp only
          cases h4 : compL vs g mt me ds ρ0 [] with
          | ok ys ρ2 =>
            dsimp only
            cases h5 : freeAll vs ρ2
            · exact propext ⟨fun q => False.elim q, fun q => Bool.noConfusion (show false = true from q.1)⟩
            · exact propext ⟨fun q => ⟨rfl, q⟩, fun q => q.2⟩
          | err _ _ _ => rfl
          | bad => rfl
      | false =>
        dsimp only
        rw [h2, Bool.and_false]
        exact propext ⟨False.elim, fun q => Bool.noConfusion (show false = true from q.2.1)⟩
    · rw [decide_eq_false h]
      exact propext ⟨False.elim, fun q => h q.1⟩

/-! ### statements -/
theorem w_nx : wpS sNx ρ P = P.nx ρ := by with_unfolding_all exact id rfl
theorem w_seq {m n : MS} : wpS (sSeq m n) ρ P = wpS m ρ (P.wn fun ρ1 => wpS n ρ1 P) := by
  with_unfolding_all
    unfold wpS sSeq
    cases m ρ <;> rfl
theorem w_expr {m : M D} : wpS (sExpr m) ρ P = wpE m ρ (fun _ ρ1 => P.nx ρ1) P.er := by
  with_unfolding_all
    unfold wpS wpE sExpr Out.fl
    cases m ρ <;> rfl
theorem w_ret {m : M D} : wpS (sRet m) ρ P = wpE m ρ P.rt P.er := by
  with_unfolding_all
    unfold wpS wpE sRet Out.fl
    cases m ρ <;> rfl
theorem w_if {c : M Bool} {m n : MS} : wpS (sIf c m n) ρ P = wpE c ρ (fun b ρ1 => wpB b (wpS m ρ1 P) (wpS n ρ1 P)) P.er := by
  with_unfolding_all
    unfold wpS wpE sIf Out.fl
    cases c ρ with
    | ok b ρ1 => cases b <;> simp [outW, wpB]
    | err _ _ _ => rfl
    | bad => rfl
theorem w_asg {m : M D} {g : D → Env → Option Env} : wpS (sAsg m g) ρ P = wpE m ρ (fun d ρ1 => wpO (g d ρ1) P.nx) P.er := by
  with_unfolding_all
    unfold wpS wpE sAsg Out.fl
    cases m ρ with
    | ok d ρ1 =>
      unfold outW wpO
      dsimp only
      cases g d ρ1 <;> rfl
    | err _ _ _ => rfl
    | bad => rfl
theorem w_setX {i : Nat} {m : M Sl} : wpS (sSetX i m) ρ P = wpE m ρ (fun s ρ1 => wpA (s.io = false) (wpO (put ρ1 i s) P.nx)) P.er := by
  with_unfolding_all
    unfold wpS wpE sSetX Out.fl
    cases m ρ with
    | ok s ρ1 =>
      unfold outW wpA
      dsimp only
      cases h : s.io with
      | true => simp [flW]
      | false =>
        simp only [Bool.false_eq_true, if_false, true_and]
        unfold sPut wpO
        cases put ρ1 i s <;> rfl
    | err _ _ _ => rfl
    | bad => rfl
theorem w_for {mi : M (List D)} {g : D → Env → Option Env} {b : MS} : wpS (sFor mi g b) ρ P = wpE mi ρ (fun ds ρ1 => wpL g b ds ρ1 P) P.er := by
  with_unfolding_all
    unfold wpS wpE sFor Out.fl wpL
    cases mi ρ <;> rfl
theorem w_par {is : List Nat} {m : M (List Sl)} : wpS (sPar is m) ρ P = wpE m ρ (fun ss ρ1 => wpO (putAll is ss ρ1) P.nx) P.er := by
  with_unfolding_all
    unfold wpS wpE sPar Out.fl
    cases m ρ with
    | ok ss ρ1 =>
      unfold outW wpO
      dsimp only
      cases putAll is ss ρ1 <;> rfl
    | err _ _ _ => rfl
    | bad => rfl
theorem w_raise {m : M (Str × List (Str × D))} : wpS (sRaise m) ρ P = wpE m ρ (fun nf ρ1 => P.er nf.1 nf.2 ρ1) P.er := by
  with_unfolding_all
    unfold wpS wpE sRaise Out.fl
    cases m ρ <;> rfl
theorem w_put {i : Nat} {s : Sl} {Q : Env → Prop} (h : i < ρ.length) : wpO (put ρ i s) Q = wpN (ρ.set i s) Q := by
  with_unfolding_all
    unfold put
    rw [if_pos h] <;> rfl
theorem w_name {i : Nat} {d : D} {Q : Env → Prop} : wpO (gNameD i d ρ) Q = wpO (put ρ i (.dat d)) Q := by with_unfolding_all exact id rfl
theorem w_gtup {g : List D → Env → Option Env} {ds : List D} {Q : Env → Prop} : wpO (gTupD g (.tup ds) ρ) Q = wpO (g ds ρ) Q := by with_unfolding_all exact id rfl
theorem w_gcons {g : D → Env → Option Env} {gs : List D → Env → Option Env} {d : D} {ds : List D} {Q : Env → Prop} : wpO (gConsD g gs (d :: ds) ρ) Q = wpO (g d ρ) fun ρ1 => wpO (gs ds ρ1) Q := by
  with_unfolding_all
    unfold gConsD
    rw [w_obind]
theorem w_gnil {Q : Env → Prop} : wpO (gNilD [] ρ) Q = Q ρ := by with_unfolding_all exact id rfl
/-- a def -/
def SP.fd (ss : Env) (Q : D → Env → Prop) (E : EP) : SP := ⟨fun ρ1 => wpO (exitL ss ρ1) fun μ => Q .non μ, fun d ρ1 => wpO (exitL ss ρ1) fun μ => Q d μ, fun _ => False, fun _ => False, fun c fs ρ1 => wpO (exitL ss ρ1) fun μ => E c fs μ⟩
theorem f_nx {ss : Env} {Q : D → Env → Prop} : (SP.fd ss Q E).nx ρ = wpO (exitL ss ρ) fun μ => Q .non μ := by with_unfolding_all exact id rfl
theorem f_rt {ss : Env} {Q : D → Env → Prop} {d : D} : (SP.fd ss Q E).rt d ρ = wpO (exitL ss ρ) fun μ => Q d μ := by with_unfolding_all exact id rfl
theorem f_bk {ss : Env} {Q : D → Env → Prop} : (SP.fd ss Q E).bk ρ = False := by with_unfolding_all exact id rfl
theorem f_ct {ss : Env} {Q : D → Env → Prop} : (SP.fd ss Q E).ct ρ = False := by with_unfolding_all exact id rfl
theorem f_er {ss : Env} {Q : D → Env → Prop} {c : Str} {fs : List (Str × D)} : (SP.fd ss Q E).er c fs ρ = wpO (exitL ss ρ) fun μ => E c fs μ := by with_unfolding_all exact id rfl
theorem w_fn {k : Nat} {mb : MS} {Q : D → Env → Prop} : wpE (mFn k mb) ρ Q E = wpN ρ fun ss => wpN (ss ++ List.replicate k .un) fun ρ' => wpS mb ρ' (SP.fd ss Q E) := by
  with_unfolding_all
    show outW (match mb (ρ ++ List.replicate k .un) with
      | .rt d ρ1 => match exitL ρ ρ1 with | some μ => .ok d μ | none => .bad
      | .nx ρ1 => match exitL ρ ρ1 with | some μ => .ok .non μ | none => .bad
      | .err n fs ρ1 => match exitL ρ ρ1 with | some μ => .err n fs μ | none => .bad
      | _ => .bad) Q E = flW (mb (ρ ++ List.replicate k .un)) (SP.fd ρ Q E)
    generalize mb (ρ ++ List.replicate k .un) = o
    cases o with
    | nx ρ1 => unfold flW SP.fd wpO; dsimp only; cases exitL ρ ρ1 <;> rfl
    | rt d ρ1 => unfold flW SP.fd wpO; dsimp only; cases exitL ρ ρ1 <;> rfl
    | bk ρ1 => rfl
    | ct ρ1 => rfl
    | err _ _ ρ1 => unfold flW SP.fd wpO; dsimp only; cases exitL ρ ρ1 <;> rfl
    | bad => rfl
end
/-! ### loops -/
theorem wpL_nil {g : D → Env → Option Env} {b : MS} {ρ : Env} {P : SP} : wpL g b [] ρ P = P.nx ρ := by with_unfolding_all exact id rfl
theorem wpL_cons {g : D → Env → Option Env} {b : MS} {d : D} {ds : List D} {ρ : Env} {P : SP} : wpL g b (d :: ds) ρ P = wpO (g d ρ) fun ρ1 => wpS b ρ1 (P.wl fun ρ2 => wpL g b ds ρ2 P) := by
  with_unfolding_all
    unfold wpL wpO wpS
    rw [forL]
    cases g d ρ with
    | none => rfl
    | some ρ1 => dsimp only; cases b ρ1 <;> rfl
/-- a loop by what holds with the items that are left -/
theorem wpL_inv {g : D → Env → Option Env} {b : MS} {P : SP} (I : List D → Env → Prop) (step : ∀ d ds ρ, I (d :: ds) ρ → wpO (g d ρ) fun ρ1 => wpS b ρ1 (P.wl (I ds))) (fin : ∀ ρ, I [] ρ → P.nx ρ) : ∀ {ds : List D} {ρ : Env}, I ds ρ → wpL g b ds ρ P
  | [], ρ, h => by with_unfolding_all exact fin ρ h
  | d :: ds, ρ, h => by
    with_unfolding_all
      rw [wpL_cons]
      have s := step d ds ρ h
      revert s
      cases g d ρ with
      | none => exact id
      | some ρ1 =>
        unfold wpO wpS
        dsimp only
        cases b ρ1 with
        | nx ρ2 => exact fun q => wpL_inv I step fin q
        | rt d ρ2 => exact id
        | bk ρ2 => exact id
        | ct ρ2 => exact fun q => wpL_inv I step fin q
        | err _ _ _ => exact id
        | bad => exact id
theorem wpC_inv {vs : List Nat} {g : D → Env → Option Env} {mt : M Bool} {me : M D} {Q : List D → Env → Prop} (I : List D → List D → Env → Prop)
    (step : ∀ d ds acc ρ, I (d :: ds) acc ρ → wpO (g d ρ) fun ρ1 => wpE mt ρ1 (fun b ρ2 => wpB b (wpE me ρ2 (fun y ρ3 => wpO (wipeE vs ρ3) fun ρ4 => I ds (acc ++ [y]) ρ4) fun _ _ _ => False) (wpO (wipeE vs ρ2) fun ρ4 => I ds acc ρ4)) fun _ _ _ => False)
    (fin : ∀ acc ρ, I [] acc ρ → Q acc ρ) : ∀ {ds acc : List D} {ρ : Env}, I ds acc ρ → wpC vs g mt me ds ρ acc Q
  | [], acc, ρ, h => by with_unfolding_all exact fin acc ρ h
  | d :: ds, acc, ρ, h => by
    with_unfolding_all
      have s := step d ds acc ρ h
      unfold wpC compL
      revert s
      cases g d ρ with
      | none => exact id
      | some ρ1 =>
        unfold wpO wpE
        dsimp only
        cases mt ρ1 with
        | err _ _ _ => exact id
        | bad => exact id
        | ok b ρ2 =>
          cases b with
          | true =>
            unfold outW wpB
            dsimp only
            simp only [forall_const, Bool.true_eq_false, false_implies, and_true]
            cases me ρ2 with
            | err _ _ _ => exact id
            | bad => exact id
            | ok y ρ3 =>
              dsimp only
              cases wipeE vs ρ3 with
              | none => exact id
              | some ρ4 => exact fun q => wpC_inv I step fin q
          | false =>
            unfold outW wpB
            dsimp only
            simp only [forall_const, Bool.false_eq_true, false_implies, true_and]
            cases wipeE vs ρ2 with
            | none => exact id
            | some ρ4 => exact fun q => wpC_inv I step fin q
/-- a comprehension without an if, that changes nothing else -/
theorem wpC_map {vs : List Nat} {g : D → Env → Option Env} {me : M D} {Q : List D → Env → Prop} (f : D → D) {ds : List D} {ρ : Env} (h : ∀ d ∈ ds, wpO (g d ρ) fun ρ1 => wpE me ρ1 (fun y ρ2 => y = f d ∧ wipeE vs ρ2 = some ρ) fun _ _ _ => False) (fin : Q (ds.map f) ρ) : wpC vs g (mPure true) me ds ρ [] Q := by
  with_unfolding_all
    refine wpC_inv (fun rest acc ρ' => ρ' = ρ ∧ acc ++ rest.map f = ds.map f ∧ ∀ d ∈ rest, d ∈ ds) ?_ ?_ ⟨rfl, by simp, fun _ h => h⟩
    · rintro d rest acc ρ' ⟨rfl, e, hm⟩
      have q := h d (hm d (by simp))
      revert q
      cases g d ρ' with
      | none => exact id
      | some ρ1 =>
        unfold wpO
        dsimp only
        rw [w_pure, w_bt]
        unfold wpE outW
        cases me ρ1 with
        | err _ _ _ => exact id
        | bad => exact id
        | ok y ρ2 =>
          dsimp only
          rintro ⟨rfl, e2⟩
          rw [e2]
          exact ⟨rfl, by simpa using e, fun d hd => hm d (by simp [hd])⟩
    · rintro acc ρ' ⟨rfl, e, _⟩
      simp at e
      rw [e]; exact fin
theorem wpE_ok {α : Type} {m : M α} {ρ ρ' : Env} {a : α} (h : m ρ = .ok a ρ') (Q : α → Env → Prop) (E : EP) : wpE m ρ Q E = Q a ρ' := by
  with_unfolding_all
    unfold wpE
    rw [h] <;> rfl
theorem wpE_err {α : Type} {m : M α} {ρ ρ' : Env} {c : Str} {fs : List (Str × D)} (h : m ρ = .err c fs ρ') (Q : α → Env → Prop) (E : EP) : wpE m ρ Q E = E c fs ρ' := by
  with_unfolding_all
    unfold wpE
    rw [h] <;> rfl
theorem wpE_get {α : Type} {m : M α} {ρ ρ' : Env} {a : α} (h : wpE m ρ (fun b μ => b = a ∧ μ = ρ') fun _ _ _ => False) : m ρ = .ok a ρ' := by
  with_unfolding_all
    unfold wpE outW at h
    revert h
    cases m ρ with
    | ok b μ => rintro ⟨rfl, rfl⟩; rfl
    | err _ _ _ => exact False.elim
    | bad => exact False.elim
theorem wpE_get1 {α : Type} {m : M α} {ρ : Env} {a : α} (h : wpE m ρ (fun b μ => b = a) fun _ _ _ => False) : ∃ μ, m ρ = .ok a μ := by
  with_unfolding_all
    unfold wpE outW at h
    revert h
    cases m ρ with
    | ok b μ => rintro rfl; exact ⟨_, rfl⟩
    | err _ _ _ => exact False.elim
    | bad => exact False.elim
/-! ### draws -/
structure Dw where
  l : List Int
  c : List Int
  r : Int
  t : Int
def Dw.sl (io : Bool) (x : Dw) : Sl := .drw io x.l x.c x.r x.t
/-- what is handed to a draw: a number, and the draws in their slot -/
def wpT (ds : List D) (o : Option Sl) (K : Int → Bool → Prop) (_t : Tg K := .t) : Prop := ∃ n io x, ds = [.int n] ∧ o = some (Dw.sl io x) ∧ K n io
def wpP (ds : List D) (o : Option Sl) (K : List D → Bool → Prop) (_t : Tg K := .t) : Prop := ∃ xs io x, ds = [.lst xs] ∧ o = some (Dw.sl io x) ∧ K xs io
theorem t_eq {n : Int} {io : Bool} {x : Dw} {K : Int → Bool → Prop} : wpT [.int n] (some (Dw.sl io x)) K = K n io := by
  with_unfolding_all
    refine propext ⟨?_, fun h => ⟨n, io, x, rfl, rfl, h⟩⟩
    rintro ⟨n', io', x', e1, e2, h⟩
    cases e1
    have : io = io' := by
      have := congrArg Sl.io (Option.some.inj e2)
      exact this
    subst this
    exact h
theorem p_eq {xs : List D} {io : Bool} {x : Dw} {K : List D → Bool → Prop} : wpP [.lst xs] (some (Dw.sl io x)) K = K xs io := by
  with_unfolding_all
    refine propext ⟨?_, fun h => ⟨xs, io, x, rfl, rfl, h⟩⟩
    rintro ⟨n', io', x', e1, e2, h⟩
    cases e1
    have : io = io' := by
      have := congrArg Sl.io (Option.some.inj e2)
      exact this
    subst this
    exact h
/-- for each of some things -/
def wpAll (xs : List D) (K : D → Prop) (_t : Tg K := .t) : Prop := ∀ d ∈ xs, K d
theorem all_i {xs : List D} {K : D → Prop} (h : ∀ d ∈ xs, K d) : wpAll xs K := h
theorem all_nil {K : D → Prop} : wpAll [] K := fun _ h => by cases h
theorem all_cons {x : D} {xs : List D} {K : D → Prop} (h : K x) (h' : wpAll xs K) : wpAll (x :: xs) K := fun d hd => by
  rcases List.mem_cons.mp hd with rfl | hd
  · exact h
  · exact h' d hd
def inL (lo hi : Int) (xs : List D) : Prop := ∀ d ∈ xs, ∃ n : Int, d = .int n ∧ lo ≤ n ∧ n ≤ hi
theorem inL_nil {lo hi : Int} : inL lo hi [] := fun _ h => by cases h
theorem inL_cons {lo hi n : Int} {xs : List D} (h : lo ≤ n ∧ n ≤ hi) (h' : inL lo hi xs) : inL lo hi (.int n :: xs) := fun d hd => by
  rcases List.mem_cons.mp hd with rfl | hd
  · exact ⟨n, rfl, h⟩
  · exact h' d hd
theorem all_int (lo hi : Int) {xs : List D} {K : D → Prop} (h : inL lo hi xs) (q : ∀ n, lo ≤ n → n ≤ hi → K (.int n)) : wpAll xs K := fun d hd => by
  obtain ⟨n, rfl, h1, h2⟩ := h d hd
  exact q n h1 h2
def wpOw (o : Option Sl) (P : Prop) (_t : Tg P := .t) : Prop := (∃ s, o = some s ∧ s.own = true) ∧ P
theorem ow_drw {io : Bool} {x : Dw} {P : Prop} : wpOw (some (x.sl io)) P = P := propext ⟨fun h => h.2, fun h => ⟨⟨_, rfl, rfl⟩, h⟩⟩
theorem w_take {j : Nat} {ρ : Env} {ma : M (List D)} {Q : D → Env → Prop} {E : EP} (h : wpOw ρ[j]? (wpE ma ρ (fun ds ρ1 => wpT ds ρ1[j]? fun n io => wpA (0 < n ∧ n < 2 ^ 64) (∀ (z : Int) (y : Dw), 0 ≤ z → z < n → wpN (ρ1.set j (y.sl io)) fun ρ2 => Q (.int z) ρ2)) E)) : wpE (mCallB j 2 FD_take ma) ρ Q E := by
  with_unfolding_all
    obtain ⟨⟨s, hs, ho⟩, h⟩ := h
    unfold wpE at h
    cases hm : ma ρ with
    | err c fs ρ1 =>
      rw [hm] at h
      have e : mCallB j 2 FD_take ma ρ = .err c fs ρ1 := by
        unfold mCallB mBind
        rw [hs]
        dsimp only
        rw [if_pos ho, hm] <;> rfl
      rw [wpE_err e]; exact h
    | bad => rw [hm] at h; exact h.elim
    | ok ds ρ1 =>
      rw [hm] at h
      obtain ⟨n, io, x, rfl, h1, ⟨hn, hb⟩, q⟩ := h
      have hl : n.natAbs.log2 < 9000 := by
        have h64 : n.natAbs < 2 ^ 64 := by omega
        have := (Nat.log2_lt (n := n.natAbs) (k := 64) (by omega)).mpr h64
        omega
      obtain ⟨z, l', r', t', h2, h3, e⟩ := take_ok (l := x.l) (c := x.c) (r := x.r) (t := x.t) hn hl
      have c := mCallB_ok (j := j) (n := 2) (F := FD_take) (s := x.sl io) hs ho hm h1 rfl e
      rw [wpE_ok c]
      exact q z ⟨l', x.c, r', t'⟩ h2 h3
theorem w_pick {j : Nat} {ρ : Env} {ma : M (List D)} {Q : D → Env → Prop} {E : EP} (h : wpOw ρ[j]? (wpE ma ρ (fun ds ρ1 => wpP ds ρ1[j]? fun xs io => wpA (xs ≠ [] ∧ xs.length < 2 ^ 64) (wpAll xs fun d => ∀ (y : Dw), wpN (ρ1.set j (y.sl io)) fun ρ2 => Q d ρ2)) E)) : wpE (mCallB j 2 FD_pick ma) ρ Q E := by
  with_unfolding_all
    obtain ⟨⟨s, hs, ho⟩, h⟩ := h
    unfold wpE at h
    cases hm : ma ρ with
    | err c fs ρ1 =>
      rw [hm] at h
      have e : mCallB j 2 FD_pick ma ρ = .err c fs ρ1 := by
        unfold mCallB mBind
        rw [hs]
        dsimp only
        rw [if_pos ho, hm] <;> rfl
      rw [wpE_err e]; exact h
    | bad => rw [hm] at h; exact h.elim
    | ok ds ρ1 =>
      rw [hm] at h
      obtain ⟨xs, io, x, rfl, h1, ⟨hn, hb⟩, q⟩ := h
      have hl : xs.length.log2 < 9000 := by
        by_cases hz : xs.length = 0
        · rw [hz]; decide
        · have := (Nat.log2_lt (n := xs.length) (k := 64) hz).mpr hb
          omega
      obtain ⟨z, hz, l', r', t', e⟩ := pick_ok (l := x.l) (c := x.c) (r := x.r) (t := x.t) hn hl
      have c := mCallB_ok (j := j) (n := 2) (F := FD_pick) (s := x.sl io) hs ho hm h1 rfl e
      rw [wpE_ok c]
      exact q z hz ⟨l', x.c, r', t'⟩
theorem w_begun {ns : List Int} {Q : Sl → Env → Prop} {E : EP} (h : ns.length ≤ 63 ∧ ∀ x : Dw, Q (x.sl false) [.dat (.rol (ns.map .int))]) : wpE mBegun [.dat (.rol (ns.map .int))] Q E := by
  with_unfolding_all
    have e : mBegun [.dat (.rol (ns.map .int))] = .ok (Dw.sl false ⟨largeOf ns, cellsOf ns, 0, 0⟩) [.dat (.rol (ns.map .int))] := by
      unfold mBegun
      dsimp only
      rw [intsD_map]
      dsimp only
      rw [if_pos (decide_eq_true (Nat.le_trans h.1 (by decide)))] <;> rfl
    rw [wpE_ok e]
    exact h.2 _
end FW

set_option Elab.async false
set_option linter.all false
set_option maxRecDepth 100000
set_option maxHeartbeats 400000
/-! FW30: values of the mirrors' operations, as rules for simp; a tactic. -/
namespace FW
open PySem PySem.Spec L2
variable [Tc]
section
variable {ρ ρ' rs ss : Env} {Q : Env → Prop} {R P : Prop} {d e : D} {i j : Int} {xs ys : List D} {s t : Str} {b : Bool} {kv : List (Key × D)} {R' : D → Prop}
theorem wpB_i {c : Bool} (h : c = true → P) (h' : c = false → R) : wpB c P R := ⟨h, h'⟩
theorem wpA_i {c : Prop} (h : c) (h' : P) : wpA c P := ⟨h, h'⟩
theorem dats_nil : dats [] = [] := by with_unfolding_all exact id rfl
theorem dats_cons : dats (d :: xs) = .dat d :: dats xs := by with_unfolding_all exact id rfl
theorem wx_nil : wpO (exitL [] rs) Q = Q [] := by with_unfolding_all exact id rfl
theorem wx_dat {r : Sl} : wpO (exitL (.dat d :: ss) (r :: rs)) Q = wpO (exitL ss rs) fun μ => Q (.dat d :: μ) := by
  with_unfolding_all
    show wpO (match some (Sl.dat d), exitL ss rs with | some x, some xs => some (x :: xs) | _, _ => none) Q = _
    cases exitL ss rs <;> rfl
theorem wx_un {r : Sl} : wpO (exitL (.un :: ss) (r :: rs)) Q = wpO (exitL ss rs) fun μ => Q (.un :: μ) := by
  with_unfolding_all
    show wpO (match some Sl.un, exitL ss rs with | some x, some xs => some (x :: xs) | _, _ => none) Q = _
    cases exitL ss rs <;> rfl
theorem wx_drw {x y : Dw} : wpO (exitL (x.sl true :: ss) (y.sl true :: rs)) Q = wpO (exitL ss rs) fun μ => Q (y.sl true :: μ) := by
  with_unfolding_all
    show wpO (match some (y.sl true), exitL ss rs with | some x, some xs => some (x :: xs) | _, _ => none) Q = _
    cases exitL ss rs <;> rfl
theorem wx_lst : wpO (exitL (.lst true xs :: ss) (.lst true ys :: rs)) Q = wpO (exitL ss rs) fun μ => Q (.lst true ys :: μ) := by
  with_unfolding_all
    show wpO (match some (Sl.lst true ys), exitL ss rs with | some x, some xs => some (x :: xs) | _, _ => none) Q = _
    cases exitL ss rs <;> rfl
def wpU (o : Option Sl) (P : Prop) (_t : Tg P := .t) : Prop := match o with | some s => s.free = true ∧ P | none => False
theorem wu_un : wpU (some .un) P = P := by with_unfolding_all (simp [wpU, Sl.free])
theorem wu_dat : wpU (some (.dat d)) P = P := by with_unfolding_all (simp [wpU, Sl.free])
theorem ww_nil : wpO (wipeE [] ρ) Q = Q ρ := by with_unfolding_all exact id rfl
theorem ww_cons {v : Nat} {vs : List Nat} : wpO (wipeE (v :: vs) ρ) Q = wpO (wipeE vs ρ) fun ρ' => wpU ρ'[v]? (Q (ρ'.set v .un)) := by
  with_unfolding_all
    rw [wipeE]
    cases wipeE vs ρ with
    | none => rfl
    | some ρ' =>
      dsimp only
      unfold wpU wpO
      dsimp only
      cases ρ'[v]? with
      | none => rfl
      | some s =>
        dsimp only
        cases s.free <;> simp
def frB (o : Option Sl) : Bool := match o with | some s => s.free | none => false
theorem fr_un : frB (some .un) = true := by with_unfolding_all exact id rfl
theorem fr_dat : frB (some (.dat d)) = true := by with_unfolding_all exact id rfl
theorem fr_nil : freeAll [] ρ = true := by with_unfolding_all exact id rfl
theorem fr_cons {v : Nat} {vs : List Nat} : freeAll (v :: vs) ρ = (frB ρ[v]? && freeAll vs ρ) := by with_unfolding_all exact id rfl
theorem bk_nil {ρ0 : Env} : backE ρ0 [] ρ = ρ := by with_unfolding_all exact id rfl
theorem bk_cons {ρ0 : Env} {v : Nat} {vs : List Nat} : backE ρ0 (v :: vs) ρ = backE ρ0 vs (ρ.set v ((ρ0[v]?).getD .un)) := by
  with_unfolding_all
    rw [backE, List.getD_eq_getElem?_getD]
theorem io_lst : (Sl.lst false xs).io = false := by with_unfolding_all exact id rfl
theorem io_dct : (Sl.dct false kv).io = false := by with_unfolding_all exact id rfl
theorem io_dat : (Sl.dat d).io = false := by with_unfolding_all exact id rfl
theorem io_drw {x : Dw} : (x.sl false).io = false := by with_unfolding_all exact id rfl
theorem of_lst : dOf (.lst false xs) = some (.lst xs) := by with_unfolding_all exact id rfl
theorem of_dct : dOf (.dct false kv) = some (.dK kv) := by with_unfolding_all exact id rfl
theorem of_dat : dOf (.dat d) = some d := by with_unfolding_all exact id rfl
theorem it_lst : dItems (.lst xs) = some xs := by with_unfolding_all exact id rfl
theorem it_rol : dItems (.rol xs) = some xs := by with_unfolding_all exact id rfl
theorem it_tup : dItems (.tup xs) = some xs := by with_unfolding_all exact id rfl
theorem tr_non : dTru .non = some false := by with_unfolding_all exact id rfl
theorem tr_bl : dTru (.bl b) = some b := by with_unfolding_all exact id rfl
theorem tr_int : dTru (.int i) = some (i != 0) := by with_unfolding_all exact id rfl
theorem tr_lst : dTru (.lst xs) = some (!xs.isEmpty) := by with_unfolding_all exact id rfl
theorem tr_tup : dTru (.tup xs) = some (!xs.isEmpty) := by with_unfolding_all exact id rfl
theorem a_int : dAdd (.int i) (.int j) = some (.int (i + j)) := by with_unfolding_all exact id rfl
theorem a_lst : wpO (dAdd (.lst xs) (.lst ys)) R' = wpA (xs.length + ys.length ≤ sizeLine) (R' (.lst (xs ++ ys))) := by
  with_unfolding_all
    show wpO (if xs.length + ys.length ≤ sizeLine then some (D.lst (xs ++ ys)) else none) R' = _
    by_cases h : xs.length + ys.length ≤ sizeLine <;> simp [h, wpO, wpA]
theorem a_tup : wpO (dAdd (.tup xs) (.tup ys)) R' = wpA (xs.length + ys.length ≤ sizeLine) (R' (.tup (xs ++ ys))) := by
  with_unfolding_all
    show wpO (if xs.length + ys.length ≤ sizeLine then some (D.tup (xs ++ ys)) else none) R' = _
    by_cases h : xs.length + ys.length ≤ sizeLine <;> simp [h, wpO, wpA]
theorem a_str : wpO (dAdd (.str s) (.str t)) R' = wpA (s.length + t.length ≤ sizeLine) (R' (.str (s ++ t))) := by
  with_unfolding_all
    show wpO (if s.length + t.length ≤ sizeLine then some (D.str (s ++ t)) else none) R' = _
    by_cases h : s.length + t.length ≤ sizeLine <;> simp [h, wpO, wpA]
theorem s_int : dSub (.int i) (.int j) = some (.int (i - j)) := by with_unfolding_all exact id rfl
theorem m_int : wpO (dMul (.int i) (.int j)) R' = wpA (i.natAbs < 18446744073709551616 ∨ j.natAbs < 18446744073709551616) (R' (.int (i * j))) := by
  with_unfolding_all
    show wpO (if (decide (i.natAbs < 18446744073709551616) || decide (j.natAbs < 18446744073709551616)) = true then some (D.int (i * j)) else none) R' = _
    by_cases h : i.natAbs < 18446744073709551616 ∨ j.natAbs < 18446744073709551616 <;> simp [h, wpO, wpA]
theorem d_int : wpO (dDiv (.int i) (.int j)) R' = wpA (0 < j ∧ j.natAbs.log2 < 9000) (R' (.int (i / j))) := by
  with_unfolding_all
    show wpO (if (decide (0 < j) && decide (j.natAbs.log2 < 9000)) = true then some (D.int (i / j)) else none) R' = _
    by_cases h : 0 < j ∧ j.natAbs.log2 < 9000 <;> simp [h, wpO, wpA]
theorem r_int : wpO (dMod (.int i) (.int j)) R' = wpA (0 < j) (R' (.int (i % j))) := by
  with_unfolding_all
    show wpO (if decide (0 < j) = true then some (D.int (i % j)) else none) R' = _
    by_cases h : 0 < j <;> simp [h, wpO, wpA]
theorem p_int : wpO (dPow (.int i) (.int j)) R' = wpA (0 ≤ j ∧ j ≤ 1000000 ∧ i.natAbs < 18446744073709551616) (R' (.int (i ^ j.toNat))) := by
  with_unfolding_all
    show wpO (if (decide (0 ≤ j) && decide (j ≤ 1000000) && decide (i.natAbs < 18446744073709551616)) = true then some (D.int (i ^ j.toNat)) else none) R' = _
    by_cases h : 0 ≤ j ∧ j ≤ 1000000 ∧ i.natAbs < 18446744073709551616
    · simp [h, wpO, wpA]
    · rw [if_neg (by simpa [and_assoc] using h)]
      simp [h, wpO, wpA]
theorem x_int : dXor (.int i) (.int j) = some (.int (Builtin.bitXor i j)) := by with_unfolding_all exact id rfl
theorem q_int : dEq (.int i) (.int j) = some (decide (i = j)) := by with_unfolding_all exact id rfl
theorem n_int : dNe (.int i) (.int j) = some (decide (i ≠ j)) := by
  with_unfolding_all
    show some (!(decide (i = j))) = _
    simp
theorem lt_int : dLt (.int i) (.int j) = some (decide (i < j)) := by with_unfolding_all exact id rfl
theorem le_int : dLe (.int i) (.int j) = some (decide (i ≤ j)) := by with_unfolding_all exact id rfl
theorem gt_int : dGt (.int i) (.int j) = some (decide (j < i)) := by with_unfolding_all exact id rfl
theorem ge_int : dGe (.int i) (.int j) = some (decide (j ≤ i)) := by with_unfolding_all exact id rfl
theorem len_lst : gLen [.lst xs] = some (.int xs.length) := by with_unfolding_all exact id rfl
theorem len_rol : gLen [.rol xs] = some (.int xs.length) := by with_unfolding_all exact id rfl
theorem len_tup : gLen [.tup xs] = some (.int xs.length) := by with_unfolding_all exact id rfl
theorem int_int : gInt [.int i] = some (.int i) := by with_unfolding_all exact id rfl
theorem abs_int : gAbs [.int i] = some (.int (if i < 0 then -i else i)) := by with_unfolding_all exact id rfl
theorem min_int : gMin2 [.int i, .int j] = some (.int (if j < i then j else i)) := by with_unfolding_all exact id rfl
theorem max_int : gMax2 [.int i, .int j] = some (.int (if j > i then j else i)) := by with_unfolding_all exact id rfl
theorem tuple_lst : gTuple [.lst xs] = some (.tup xs) := by with_unfolding_all exact id rfl
theorem tuple_rol : gTuple [.rol xs] = some (.tup xs) := by with_unfolding_all exact id rfl
theorem tuple_tup : gTuple [.tup xs] = some (.tup xs) := by with_unfolding_all exact id rfl
theorem rg_int {R' : List D → Prop} : wpO (match [D.int j] with | [.int j] => if -(2 ^ 62) ≤ j ∧ j < 2 ^ 62 then some (rangeD 0 j.toNat) else none | _ => none) R' = wpA (-(2 ^ 62) ≤ j ∧ j < 2 ^ 62) (R' (rangeD 0 j.toNat)) := by
  with_unfolding_all
    show wpO (if -(2 ^ 62) ≤ j ∧ j < 2 ^ 62 then some (rangeD 0 j.toNat) else none) R' = _
    rw [w_oiten, w_some]
theorem w_dct0 {R : Sl → Env → Prop} {E : EP} : wpE mDct0 ρ R E = R (.dct false []) ρ := by with_unfolding_all exact id rfl
theorem is_nn : dIs .non .non = some true := by with_unfolding_all exact id rfl
theorem is_bb {c : Bool} : dIs (.bl b) (.bl c) = some (b == c) := by with_unfolding_all exact id rfl
theorem is_nb : dIs .non (.bl b) = some false := by with_unfolding_all exact id rfl
theorem is_bn : dIs (.bl b) .non = some false := by with_unfolding_all exact id rfl
theorem isn_nn : dIsN .non .non = some false := by with_unfolding_all exact id rfl
theorem isn_bn : dIsN (.bl b) .non = some true := by with_unfolding_all exact id rfl

theorem isi_int_non : dIsi ["int"] .non = some false := by with_unfolding_all exact id rfl
theorem isi_int_bl : dIsi ["int"] (.bl b) = some true := by with_unfolding_all exact id rfl
theorem isi_int_int : dIsi ["int"] (.int i) = some true := by with_unfolding_all exact id rfl
theorem isi_int_str : dIsi ["int"] (.str s) = some false := by with_unfolding_all exact id rfl
theorem isi_int_lst : dIsi ["int"] (.lst xs) = some false := by with_unfolding_all exact id rfl
theorem isi_int_rol : dIsi ["int"] (.rol xs) = some false := by with_unfolding_all exact id rfl
theorem isi_int_tup : dIsi ["int"] (.tup xs) = some false := by with_unfolding_all exact id rfl
theorem isi_int_dK : dIsi ["int"] (.dK kv) = some false := by with_unfolding_all exact id rfl
theorem isi_bool_non : dIsi ["bool"] .non = some false := by with_unfolding_all exact id rfl
theorem isi_bool_bl : dIsi ["bool"] (.bl b) = some true := by with_unfolding_all exact id rfl
theorem isi_bool_int : dIsi ["bool"] (.int i) = some false := by with_unfolding_all exact id rfl
theorem isi_bool_str : dIsi ["bool"] (.str s) = some false := by with_unfolding_all exact id rfl
theorem isi_bool_lst : dIsi ["bool"] (.lst xs) = some false := by with_unfolding_all exact id rfl
theorem isi_bool_rol : dIsi ["bool"] (.rol xs) = some false := by with_unfolding_all exact id rfl
theorem isi_bool_tup : dIsi ["bool"] (.tup xs) = some false := by with_unfolding_all exact id rfl
theorem isi_bool_dK : dIsi ["bool"] (.dK kv) = some false := by with_unfolding_all exact id rfl
theorem isi_str_non : dIsi ["str"] .non = some false := by with_unfolding_all exact id rfl
theorem isi_str_bl : dIsi ["str"] (.bl b) = some false := by with_unfolding_all exact id rfl
theorem isi_str_int : dIsi ["str"] (.int i) = some false := by with_unfolding_all exact id rfl
theorem isi_str_str : dIsi ["str"] (.str s) = some true := by with_unfolding_all exact id rfl
theorem isi_str_lst : dIsi ["str"] (.lst xs) = some false := by with_unfolding_all exact id rfl
theorem isi_str_rol : dIsi ["str"] (.rol xs) = some false := by with_unfolding_all exact id rfl
theorem isi_str_tup : dIsi ["str"] (.tup xs) = some false := by with_unfolding_all exact id rfl
theorem isi_str_dK : dIsi ["str"] (.dK kv) = some false := by with_unfolding_all exact id rfl
theorem isi_tuple_non : dIsi ["tuple"] .non = some false := by with_unfolding_all exact id rfl
theorem isi_tuple_bl : dIsi ["tuple"] (.bl b) = some false := by with_unfolding_all exact id rfl
theorem isi_tuple_int : dIsi ["tuple"] (.int i) = some false := by with_unfolding_all exact id rfl
theorem isi_tuple_str : dIsi ["tuple"] (.str s) = some false := by with_unfolding_all exact id rfl
theorem isi_tuple_lst : dIsi ["tuple"] (.lst xs) = some false := by with_unfolding_all exact id rfl
theorem isi_tuple_rol : dIsi ["tuple"] (.rol xs) = some false := by with_unfolding_all exact id rfl
theorem isi_tuple_tup : dIsi ["tuple"] (.tup xs) = some true := by with_unfolding_all exact id rfl
theorem isi_tuple_dK : dIsi ["tuple"] (.dK kv) = some false := by with_unfolding_all exact id rfl
theorem isi_list_non : dIsi ["list"] .non = some false := by with_unfolding_all exact id rfl
theorem isi_list_bl : dIsi ["list"] (.bl b) = some false := by with_unfolding_all exact id rfl
theorem isi_list_int : dIsi ["list"] (.int i) = some false := by with_unfolding_all exact id rfl
theorem isi_list_str : dIsi ["list"] (.str s) = some false := by with_unfolding_all exact id rfl
theorem isi_list_lst : dIsi ["list"] (.lst xs) = some true := by with_unfolding_all exact id rfl
theorem isi_list_rol : dIsi ["list"] (.rol xs) = some true := by with_unfolding_all exact id rfl
theorem isi_list_tup : dIsi ["list"] (.tup xs) = some false := by with_unfolding_all exact id rfl
theorem isi_list_dK : dIsi ["list"] (.dK kv) = some false := by with_unfolding_all exact id rfl
theorem isi_dict_non : dIsi ["dict"] .non = some false := by with_unfolding_all exact id rfl
theorem isi_dict_bl : dIsi ["dict"] (.bl b) = some false := by with_unfolding_all exact id rfl
theorem isi_dict_int : dIsi ["dict"] (.int i) = some false := by with_unfolding_all exact id rfl
theorem isi_dict_str : dIsi ["dict"] (.str s) = some false := by with_unfolding_all exact id rfl
theorem isi_dict_lst : dIsi ["dict"] (.lst xs) = some false := by with_unfolding_all exact id rfl
theorem isi_dict_rol : dIsi ["dict"] (.rol xs) = some false := by with_unfolding_all exact id rfl
theorem isi_dict_tup : dIsi ["dict"] (.tup xs) = some false := by with_unfolding_all exact id rfl
theorem isi_dict_dK : dIsi ["dict"] (.dK kv) = some true := by with_unfolding_all exact id rfl
theorem isi_list_tuple_non : dIsi ["list", "tuple"] .non = some false := by with_unfolding_all exact id rfl
theorem isi_list_tuple_bl : dIsi ["list", "tuple"] (.bl b) = some false := by with_unfolding_all exact id rfl
theorem isi_list_tuple_int : dIsi ["list", "tuple"] (.int i) = some false := by with_unfolding_all exact id rfl
theorem isi_list_tuple_str : dIsi ["list", "tuple"] (.str s) = some false := by with_unfolding_all exact id rfl
theorem isi_list_tuple_lst : dIsi ["list", "tuple"] (.lst xs) = some true := by with_unfolding_all exact id rfl
theorem isi_list_tuple_rol : dIsi ["list", "tuple"] (.rol xs) = some true := by with_unfolding_all exact id rfl
theorem isi_list_tuple_tup : dIsi ["list", "tuple"] (.tup xs) = some true := by with_unfolding_all exact id rfl
theorem isi_list_tuple_dK : dIsi ["list", "tuple"] (.dK kv) = some false := by with_unfolding_all exact id rfl
theorem isi_int_str_non : dIsi ["int", "str"] .non = some false := by with_unfolding_all exact id rfl
theorem isi_int_str_bl : dIsi ["int", "str"] (.bl b) = some true := by with_unfolding_all exact id rfl
theorem isi_int_str_int : dIsi ["int", "str"] (.int i) = some true := by with_unfolding_all exact id rfl
theorem isi_int_str_str : dIsi ["int", "str"] (.str s) = some true := by with_unfolding_all exact id rfl
theorem isi_int_str_lst : dIsi ["int", "str"] (.lst xs) = some false := by with_unfolding_all exact id rfl
theorem isi_int_str_rol : dIsi ["int", "str"] (.rol xs) = some false := by with_unfolding_all exact id rfl
theorem isi_int_str_tup : dIsi ["int", "str"] (.tup xs) = some false := by with_unfolding_all exact id rfl
theorem isi_int_str_dK : dIsi ["int", "str"] (.dK kv) = some false := by with_unfolding_all exact id rfl
theorem is_int_n : dIs (.int i) .non = some false := by with_unfolding_all exact id rfl
theorem is_int_b : dIs (.int i) (.bl b) = some false := by with_unfolding_all exact id rfl
theorem isn_int_n : dIsN (.int i) .non = some true := by with_unfolding_all exact id rfl
theorem is_str_n : dIs (.str s) .non = some false := by with_unfolding_all exact id rfl
theorem is_str_b : dIs (.str s) (.bl b) = some false := by with_unfolding_all exact id rfl
theorem isn_str_n : dIsN (.str s) .non = some true := by with_unfolding_all exact id rfl
theorem is_lst_n : dIs (.lst xs) .non = some false := by with_unfolding_all exact id rfl
theorem is_lst_b : dIs (.lst xs) (.bl b) = some false := by with_unfolding_all exact id rfl
theorem isn_lst_n : dIsN (.lst xs) .non = some true := by with_unfolding_all exact id rfl
theorem is_rol_n : dIs (.rol xs) .non = some false := by with_unfolding_all exact id rfl
theorem is_rol_b : dIs (.rol xs) (.bl b) = some false := by with_unfolding_all exact id rfl
theorem isn_rol_n : dIsN (.rol xs) .non = some true := by with_unfolding_all exact id rfl
theorem is_tup_n : dIs (.tup xs) .non = some false := by with_unfolding_all exact id rfl
theorem is_tup_b : dIs (.tup xs) (.bl b) = some false := by with_unfolding_all exact id rfl
theorem isn_tup_n : dIsN (.tup xs) .non = some true := by with_unfolding_all exact id rfl
theorem is_dK_n : dIs (.dK kv) .non = some false := by with_unfolding_all exact id rfl
theorem is_dK_b : dIs (.dK kv) (.bl b) = some false := by with_unfolding_all exact id rfl
theorem isn_dK_n : dIsN (.dK kv) .non = some true := by with_unfolding_all exact id rfl
end
end FW
set_option Elab.async false
set_option linter.all false
set_option maxRecDepth 100000
set_option maxHeartbeats 400000
/-! FW31: small data: it can be shown, and is the same as itself. -/
namespace FW
open PySem PySem.Spec L2
variable [Tc]
/-- data of at most so much weight and depth -/
def SmP (w k : Nat) (p : PyData) : Prop := p.plain = true ∧ p.showable = true ∧ p.hasDict = false ∧ p.leavesShort 64 = true ∧ p.depth ≤ k ∧ p.weight ≤ w
def SmPL (w k : Nat) (p : List PyData) : Prop := PyData.plainAll p = true ∧ PyData.showableAll p = true ∧ PyData.hasDictAll p = false ∧ PyData.leavesShortAll 64 p = true ∧ PyData.depthAll p ≤ k ∧ PyData.weightAll p ≤ w
def Sm (w k : Nat) (d : D) : Prop := ∃ p, d.py = some p ∧ SmP w k p
def SmL (w k : Nat) (d : List D) : Prop := ∃ p, D.pyL d = some p ∧ SmPL w k p
theorem sm_mono {w k w' k' : Nat} {d : D} (h : Sm w k d) (hw : w ≤ w') (hk : k ≤ k') : Sm w' k' d := by
  with_unfolding_all
    obtain ⟨p, e, h1, h2, h3, h4, h5, h6⟩ := h
    exact ⟨p, e, h1, h2, h3, h4, Nat.le_trans h5 hk, Nat.le_trans h6 hw⟩
theorem sml_mono {w k w' k' : Nat} {d : List D} (h : SmL w k d) (hw : w ≤ w') (hk : k ≤ k') : SmL w' k' d := by
  with_unfolding_all
    obtain ⟨p, e, h1, h2, h3, h4, h5, h6⟩ := h
    exact ⟨p, e, h1, h2, h3, h4, Nat.le_trans h5 hk, Nat.le_trans h6 hw⟩
theorem sm_non : Sm 0 0 .non := ⟨.none, rfl, rfl, rfl, rfl, rfl, Nat.le_refl _, Nat.le_refl _⟩
theorem sm_bl {b : Bool} : Sm 0 0 (.bl b) := ⟨.bool b, rfl, rfl, rfl, rfl, rfl, Nat.le_refl _, Nat.le_refl _⟩
theorem sm_int {i : Int} (h : i.natAbs < 10 ^ 60) : Sm 200 0 (.int i) := by
  with_unfolding_all
    have l : i.natAbs ≠ 0 → i.natAbs.log2 < 200 := fun z => (Nat.log2_lt z).mpr (Nat.lt_trans h (by decide))
    refine ⟨.int i, rfl, rfl, ?_, rfl, ?_, Nat.le_refl _, ?_⟩
    · show decide (i.natAbs.log2 < 1920) = true
      by_cases z : i.natAbs = 0
      · rw [z]; decide
      · exact decide_eq_true (Nat.lt_trans (l z) (by decide))
    · have e : (Str.ofString (toString i)).length ≤ 64 := by
        have := int_text_length_le10 (k := 60) (by decide) h
        rw [ofString_length]; omega
      show decide ((PyData.shown (.int i)).length ≤ 64) = true
      exact decide_eq_true e
    · show (if i == 0 then 0 else i.natAbs.log2 + 1) ≤ 200
      by_cases z : i.natAbs = 0
      · have : i = 0 := by omega
        subst this; decide
      · have := l z
        split <;> omega
theorem sm_str {s : Str} (h : (s.cps.toList.all fun c => decide (c < 16 ^ 8)) = true) : Sm s.length 0 (.str s) :=
  ⟨.str s, rfl, rfl, rfl, rfl, h, Nat.le_refl _, Nat.le_refl _⟩
theorem sml_nil : SmL 0 0 [] := ⟨[], rfl, rfl, rfl, rfl, rfl, Nat.le_refl _, Nat.le_refl _⟩
theorem sml_cons {w k w' k' : Nat} {d : D} {ds : List D} (h : Sm w k d) (t : SmL w' k' ds) : SmL (w + 1 + w') (max k k') (d :: ds) := by
  with_unfolding_all
    obtain ⟨p, e, h1, h2, h3, h4, h5, h6⟩ := h
    obtain ⟨q, e', g1, g2, g3, g4, g5, g6⟩ := t
    refine ⟨p :: q, by simp only [D.pyL, e, e'], ?_, ?_, ?_, ?_, ?_, ?_⟩
    · simp only [PyData.plainAll, h1, g1, Bool.and_self]
    · simp only [PyData.showableAll, h2, g2, Bool.and_self]
    · simp only [PyData.hasDictAll, h3, g3, Bool.or_self]
    · simp only [PyData.leavesShortAll, h4, g4, Bool.and_self]
    · simp only [PyData.depthAll]; omega
    · simp only [PyData.weightAll]; omega
theorem sml_all {w k : Nat} : ∀ {ds : List D}, (∀ d ∈ ds, Sm w k d) → SmL (ds.length * (w + 1)) k ds
  | [], _ => sml_mono sml_nil (Nat.zero_le _) (Nat.zero_le _)
  | d :: ds, h => by
    with_unfolding_all
      have a := sml_cons (h d (by simp)) (sml_all (ds := ds) fun x hx => h x (by simp [hx]))
      refine sml_mono a ?_ (by omega)
      rw [List.length_cons, Nat.add_mul]; omega
theorem sm_tup {w k : Nat} {ds : List D} (h : SmL w k ds) : Sm w (k + 1) (.tup ds) := by
  with_unfolding_all
    obtain ⟨p, e, h1, h2, h3, h4, h5, h6⟩ := h
    exact ⟨.tuple p, by simp only [D.py, e, Option.map_some], by simpa only [PyData.plain] using h1, by simpa only [PyData.showable] using h2, by simpa only [PyData.hasDict] using h3, by simpa only [PyData.leavesShort] using h4, by simp only [PyData.depth]; omega, by simpa only [PyData.weight] using h6⟩
theorem sm_lst {w k : Nat} {ds : List D} (h : SmL w k ds) : Sm w (k + 1) (.lst ds) := by
  with_unfolding_all
    obtain ⟨p, e, h1, h2, h3, h4, h5, h6⟩ := h
    exact ⟨.list p, by simp only [D.py, e, Option.map_some], by simpa only [PyData.plain] using h1, by simpa only [PyData.showable] using h2, by simpa only [PyData.hasDict] using h3, by simpa only [PyData.leavesShort] using h4, by simp only [PyData.depth]; omega, by simpa only [PyData.weight] using h6⟩
/-- small data can be shown -/
theorem repr_sm {w k : Nat} {d : D} (h : Sm w k d) (hw : w ≤ 2 ^ 17) (hk : k ≤ 60) : ∃ s : Str, gRepr [d] = some (.str s) := by
  with_unfolding_all
    obtain ⟨p, e, h1, h2, h3, h4, h5, h6⟩ := h
    refine ⟨p.shown, ?_⟩
    have l : p.shown.length ≤ sizeLine := by
      have := PyData.shown_le 64 (by decide) p h4
      have e : (2 : Nat) ^ 17 = 131072 := by decide
      have h2 : (64 + 2) * p.weight ≤ 66 * 131072 := Nat.mul_le_mul (by omega) (by omega)
      rw [sizeLine_eq]
      omega
    unfold gRepr
    dsimp only
    rw [e]
    dsimp only
    rw [h2, h3, decide_eq_true (Nat.le_trans h5 hk), decide_eq_true l] <;> rfl
theorem w_repr {w k : Nat} {d : D} {Q : D → Prop} (h : Sm w k d) (hw : w ≤ 2 ^ 17) (hk : k ≤ 60) (q : ∀ s : Str, gRepr [d] = some (.str s) → Q (.str s)) : wpO (gRepr [d]) Q := by
  with_unfolding_all
    obtain ⟨s, e⟩ := repr_sm h hw hk
    rw [e]
    exact q s e
theorem eq_py {d : D} {p : PyData} (e : d.py = some p) (h : shp p = true) : dEq d d = some true := by
  with_unfolding_all
    unfold dEq
    rw [e]
    dsimp only
    rw [h, SeqAt.eqv_refl_plain p (shp_plain h)] <;> rfl
theorem eq_sm {w k : Nat} {d : D} (h : Sm w k d) (hk : k ≤ 64) : dEq d d = some true := by
  with_unfolding_all
    obtain ⟨p, e, h1, h2, h3, h4, h5, h6⟩ := h
    exact eq_py e (by unfold shp; rw [h1, decide_eq_true (Nat.le_trans h5 hk)] <;> rfl)
theorem ne_sm {w k : Nat} {d : D} (h : Sm w k d) (hk : k ≤ 64) : dNe d d = some false := by
  with_unfolding_all
    unfold dNe
    rw [eq_sm h hk] <;> rfl
theorem eq_strs {s t : Str} : dEq (.str s) (.str t) = some (s == t) := rfl
theorem ne_strs {s t : Str} : dNe (.str s) (.str t) = some (!(s == t)) := rfl
theorem ne_same {s : Str} : dNe (.str s) (.str s) = some false := by
  with_unfolding_all
    rw [ne_strs]; simp
theorem eq_same {s : Str} : dEq (.str s) (.str s) = some true := by
  with_unfolding_all
    rw [eq_strs]; simp
theorem rangeD_len {lo : Int} {n : Nat} : (rangeD lo n).length = n := by with_unfolding_all (simp [rangeD])
theorem w_isCy {ys ns : List Str} {c : Str} {fs : List (Str × D)} {Q : Bool → Prop} (h : ys.contains c = true) (q : Q true) : wpO (dIsC ys ns (.exc c fs)) Q := by
  with_unfolding_all
    show wpO (if ys.contains c = true then some true else if ns.contains c = true then some false else none) Q
    rw [if_pos h]; exact q
theorem w_isCn {ys ns : List Str} {c : Str} {fs : List (Str × D)} {Q : Bool → Prop} (h : ys.contains c = false) (h2 : ns.contains c = true) (q : Q false) : wpO (dIsC ys ns (.exc c fs)) Q := by
  with_unfolding_all
    show wpO (if ys.contains c = true then some true else if ns.contains c = true then some false else none) Q
    rw [h, if_neg (by decide), if_pos h2]; exact q
theorem w_fldy {ns : List Str} {f c : Str} {fs : List (Str × D)} {Q : D → Prop} (v : D) (h : ns.contains c = true) (h2 : fs.lookup f = some v) (q : Q v) : wpO (dFldN ns f (.exc c fs)) Q := by
  with_unfolding_all
    show wpO (if ns.contains c = true then fs.lookup f else none) Q
    rw [if_pos h, h2]; exact q
end FW

set_option Elab.async false
set_option linter.all false
set_option maxRecDepth 100000
set_option maxHeartbeats 800000
/-! FW32: a dict of ints and texts asked with a tuple: it is not there. -/
namespace FW
open PySem PySem.Spec L2
open PySem.SeqAt
section
variable {prog : Program} {w : World} {A : Around} {E : Value → Shared → Prop} {s : Shared} {d a : Addr} {k : NestedKey}
/-- all stored keys are other keys -/
def Others (h : Heap) (k : NestedKey) (es : Array DictEntry) : Prop := ∀ e ∈ es, ∃ k', NestedIs h k' e.key ∧ k'.depth ≤ 8 ∧ k' ≠ k
/-- all these values are keys -/
def AllKeys (h : Heap) (vs : List Value) : Prop := ∀ v ∈ vs, ∃ k', NestedIs h k' v ∧ k'.depth ≤ 8
/-- no == of an own class is asked -/
theorem tell_none {others : List Value} {Q : Bool → Shared → Prop} (mine : NestedIs s.heap k (.ref a)) (flat : k.depth ≤ 8) (all : AllKeys s.heap others) (h : Q false s) : wpAny (model prog w) A (tableMayTell (.ref a) others) Q E s := by
  have quiet : ∀ {v : Value} {k' : NestedKey} {Q' : Bool → Shared → Prop}, NestedIs s.heap k' v → k'.depth ≤ 8 → Q' true s → wpAny (model prog w) A (eqIsQuiet 8 v) Q' E s := fun n m q => quiet_key _ _ 8 s n m A E _ q
  unfold tableMayTell
  split
  case isTrue => exact wpAny_pure h
  case isFalse =>
    refine wpAny_bind (quiet mine flat ?_)
    rw [Bool.not_true, if_neg Bool.false_ne_true]
    refine wpAny_bind (wpAny_forIn_list _ (fun left acc s2 => (s2 = s ∧ acc = (none, ())) ∧ AllKeys s.heap left) _ ?_ ?_ _ _ ⟨⟨rfl, rfl⟩, all⟩)
    · rintro v left acc _ ⟨⟨rfl, rfl⟩, al⟩
      obtain ⟨k', n, m⟩ := al v (.head _)
      refine wpAny_bind (quiet n m ?_)
      rw [Bool.not_true, if_neg Bool.false_ne_true]
      exact wpAny_pure ⟨⟨rfl, rfl⟩, fun u hu => al u (.tail _ hu)⟩
    · rintro acc _ ⟨⟨rfl, rfl⟩, _⟩
      exact wpAny_pure h
/-- no entry is the very key -/
theorem Others.none_is {h : Heap} {es : Array DictEntry} {n : Int} (mine : NestedIs h k (.ref a)) (o : Others h k es) : (es.any fun e => e.key == Value.ref a && e.hash != n) = false := by
  rw [← Array.any_toList]
  refine List.any_eq_false.mpr fun e he z => ?_
  obtain ⟨k', n1, _, n3⟩ := o e (Array.mem_toList_iff.mp he)
  obtain ⟨z, _⟩ := Bool.and_eq_true_iff.mp z
  rw [eq_of_beq z] at n1
  exact n3 (NestedIs.inj _ _ _ n1 mine)
theorem Others.keys {h : Heap} {es : Array DictEntry} (o : Others h k es) (ps : List Nat) : AllKeys h (ps.filterMap fun i => es[i]?.map (·.key)) := fun v hv => by
  obtain ⟨i, _, hi⟩ := List.mem_filterMap.mp hv
  obtain ⟨e, at_, rfl⟩ := Option.map_eq_some_iff.mp hi
  obtain ⟨k', n1, n2, _⟩ := o e (Array.mem_of_getElem? at_)
  exact ⟨k', n1, n2⟩
theorem find_none {o : Obj} {es : Array DictEntry} {ep : Nat} {Q : Option Nat → Shared → Prop} (room : A.units + 8 < cLine) (mine : NestedIs s.heap k (.ref a)) (flat : k.depth ≤ 8) (ho : s.heap.get? d = some o) (hd : o.data = .dict es ep)
    (oth : Others s.heap k es) (h : Q none s) : wpAny (model prog w) A (dictFind d (.ref a) (k.hash w)) Q E s := by
  have look : ∀ {α : Type} {g : Nat → Sem α} {Q' : α → Shared → Prop}, wpAny (model prog w) A (g ep) Q' E s → wpAny (model prog w) A (dictEpoch d >>= g) Q' E s := fun q => wpAny_bind (wpAny_dictEpoch ho hd q)
  have notMine : ∀ {e : DictEntry}, e ∈ es → EqAt A s e.key (.ref a) false := fun he => by
    obtain ⟨k', n1, _, n3⟩ := oth _ he
    have q := eqAt_key k' k A s _ _ n1 mine (by omega)
    cases eb : NestedKey.beq k' k with
    | false => exact q.cast eb
    | true => exact absurd (NestedKey.eq_of_beq _ _ eb) n3
  unfold dictFind
  try with_reducible refine wpAny_holding ?_
  refine wpAny_bind ?_
  refine wpAny_dictEntries ho hd ?_
  dsimp only
  generalize hps : placesWithHash es.size (fun i => es[i]?.map (·.hash)) (k.hash w) = ps
  have few := oth.keys ps
  generalize (ps.filterMap fun i => es[i]?.map (·.key)) = stored at few ⊢
  rw [if_neg (by simp [carriedByValue]), if_neg (by rw [oth.none_is mine]; exact Bool.false_ne_true)]
  split
  case' isTrue => refine wpAny_bind ?_; refine wpAny_pure ?_
  case' isFalse => refine wpAny_bind ?_; refine tell_none mine flat few ?_
  all_goals
    rw [if_neg (by simp)]
    refine wpAny_bind (wpAny_forIn_list _ (fun _ acc s2 => s2 = s ∧ acc = (none, none)) _ ?_ ?_ _ _ ⟨rfl, rfl⟩)
    · rintro i left acc _ ⟨rfl, rfl⟩
      cases at_ : es[i]? with
      | none => exact wpAny_pure ⟨rfl, rfl⟩
      | some en =>
        dsimp only
        split
        · refine look ?_
          refine wpAny_bind (notMine (Array.mem_of_getElem? at_) prog w _ _ (look ?_))
          simp only [bne_self_eq_false, Bool.false_eq_true, if_false, Bool.false_and]
          first
            | exact wpAny_bind (wpAny_rule (wpAny_pure ⟨rfl, rfl⟩))
            | exact wpAny_rule (wpAny_pure ⟨rfl, rfl⟩)
        · exact wpAny_pure ⟨rfl, rfl⟩
    · rintro acc _ ⟨rfl, rfl⟩
      exact wpAny_pure h
theorem get_none {o : Obj} {es : Array DictEntry} {ep : Nat} {Q : Option Value → Shared → Prop} (hu : A.units + 8 < cLine) (hk : NestedIs s.heap k (.ref a)) (hdp : k.depth ≤ 8) (ho : s.heap.get? d = some o) (hd : o.data = .dict es ep)
    (hs : Others s.heap k es) (h : Q none { s with toks := s.toks + k.draws }) : wpAny (model prog w) A (dictGet d (.ref a)) Q E s := by
  unfold dictGet
  try with_reducible refine wpAny_holding ?_
  exact wpAny_bind (pyHash_key k _ A s _ hk (by omega) (wpAny_bind (find_none (s := { s with toks := s.toks + k.draws }) hu hk hdp ho hd hs (wpAny_pure h))))
theorem meets_get_none {o : Obj} {es : Array DictEntry} {ep : Nat} (dflt : Value) (hd : (d == sysModules) = false) :
    MeetsIn prog w (Builtin.«dict.get» ⟨[.ref d, .ref a, dflt], []⟩) (fun A R s => A.in1.units + 8 < cLine ∧ (NestedIs s.heap k (.ref a) ∧ k.depth ≤ 8 ∧ s.heap.get? d = some o ∧ o.data = .dict es ep ∧ Others s.heap k es) ∧
      R (.ok (.ret dflt)) { s with toks := s.toks + k.draws }) :=
  .of_wp fun A R s ⟨hu, ⟨h1, h2, h3, h4, h5⟩, h⟩ => by
    show wpAny _ _ (dictGet d (.ref a) >>= _) _ _ s
    refine wpAny_bind (get_none hu h1 h2 h3 h4 h5 ?_)
    show wpAny _ _ (Builtin.Dict.missed d (.ref a) >>= _) _ _ _
    exact wpAny_bind (wpAny_missed_other hd (wpAny_pure ⟨dflt, rfl, h⟩))
end
end FW

set_option Elab.async false
set_option linter.all false
set_option maxRecDepth 100000
set_option maxHeartbeats 800000
/-! FW33: d.get(k, x) of data; dicts written with text keys. -/
namespace FW
open PySem PySem.Spec L2
variable [Tc]
mutual
/-- data as a key -/
def D.key : D → Option NestedKey
  | .non => some .none | .bl b => some (.num (if b = true then 1 else 0)) | .int i => some (.num i) | .str s => some (.text s)
  | .tup xs => (D.keyL xs).map .tup | _ => none
def D.keyL : List D → Option (List NestedKey)
  | [] => some [] | x :: xs => match D.key x, D.keyL xs with | some a, some b => some (a :: b) | _, _ => none
end
section
variable {X : Cx} {pins : List (Addr × Obj)} {σ : Sg} {H : Hp} {s : Shared}
mutual
theorem Rep.nested (I : Inv X pins σ H s) : ∀ (d : D) (v : V) (u : Value) (k : NestedKey), Rep X.K X.mg H d v → RelV v u → d.key = some k → NestedIs s.heap k u
  | .non, _, _, _, h, r, e => by cases h; cases e; cases r; exact .none
  | .bl b, _, _, _, h, r, e => by cases h; cases e; cases r; exact .bool rfl
  | .int i, _, _, _, h, r, e => by cases h; cases e; obtain ⟨t, rfl⟩ := r; exact .int i t
  | .str x, _, _, _, h, r, e => by cases h; cases e; obtain ⟨t, rfl⟩ := r; exact .text x t
  | .tup xs, _, _, _, h, r, e => by
    simp only [D.key] at e
    cases q : D.keyL xs with
    | none => rw [q] at e; cases e
    | some ks =>
      rw [q] at e; cases e
      cases h with
      | tup hs l =>
        cases r
        obtain ⟨its, rv, ⟨o, ho, hc, n, hd⟩, _⟩ := I.tuple hs
        exact .tup ho hc hd (by simpa using Rep.nestedL I xs _ its ks l rv q)
  | .lst _, _, _, _, _, _, e => by simp only [D.key] at e; cases e
  | .rol _, _, _, _, _, _, e => by simp only [D.key] at e; cases e
  | .dK _, _, _, _, _, _, e => by simp only [D.key] at e; cases e
  | .exc _ _, _, _, _, _, _, e => by simp only [D.key] at e; cases e
  | .cls _, _, _, _, _, _, e => by simp only [D.key] at e; cases e
theorem Rep.nestedL (I : Inv X pins σ H s) : ∀ (ds : List D) (vs : List V) (us : List Value) (ks : List NestedKey), RepL X.K X.mg H ds vs → Vals vs us → D.keyL ds = some ks → NestedAll s.heap ks us
  | [], _, _, _, h, r, e => by cases h; cases r; simp only [D.keyL] at e; cases e; exact .nil
  | d :: ds, _, _, _, h, r, e => by
    cases h with
    | cons h1 h2 =>
      cases r with
      | cons r1 r2 =>
        simp only [D.keyL] at e
        cases q : D.key d with
        | none => rw [q] at e; simp at e
        | some a =>
          cases q2 : D.keyL ds with
          | none => rw [q, q2] at e; simp at e
          | some b => rw [q, q2] at e; cases e; exact .cons (Rep.nested I d _ _ _ h1 r1 q) (Rep.nestedL I ds _ _ _ h2 r2 q2)
end
end
/-- what stands at a key -/
def lookK (kvs : List (Key × D)) (k : Key) : Option D := (kvs.find? fun kv => decide (kv.1 = k)).map (·.2)
theorem RepK.look {K : PySem.W.Frag} {mg : Str → Option Value} {G : Hp} {k : Key} : ∀ {kvs : List (Key × D)} {ws : List (Key × V)}, RepK K mg G kvs ws → (lookK kvs k = none ∧ valV ws k = none) ∨ ∃ d v, lookK kvs k = some d ∧ valV ws k = some v ∧ Rep K mg G d v
  | [], _, .nil => .inl ⟨rfl, rfl⟩
  | (k', d) :: kvs, _, .cons (v := v) (vs := vs) a b => by
    by_cases e : k' = k
    · subst e
      exact .inr ⟨d, v, by simp [lookK], by simp [valV], a⟩
    · have h1 : lookK ((k', d) :: kvs) k = lookK kvs k := by simp [lookK, e]
      have h2 : valV ((k', v) :: vs) k = valV vs k := by simp [valV, e]
      rw [h1, h2]
      exact RepK.look b
/-- d.get(k, x) -/
def dGet2 : D → D → D → Option D
  | .dK kvs, .str s, z => some ((lookK kvs (.inr s)).getD z)
  | .dK kvs, .int i, z => some ((lookK kvs (.inl i)).getD z)
  | .dK kvs, .tup xs, z => match D.key (.tup xs) with | some k => if k.depth ≤ 8 then some z else none | none => none
  | _, _, _ => none
def mBad {α : Type} : M α := fun _ => .bad
def isDK : D → Bool | .dK _ => true | _ => false
def mGet2 (m n k : M D) : M D := mBind m fun d => if isDK d then mBind n fun y => mBind k fun z => mOpt (dGet2 d y z) else mBad
section
variable {X : Cx} {W : WX} {o e f : Expr} {apos cpos : Pos} {td ty tx : TE}
def tG2 (K : PySem.W.Frag) (mg : Str → Option Value) (td ty tx : TE) : TE := fun σ H Q => td σ H fun x H1 => ∃ a, x = .ref a ∧ IsD H1 a ∧ ty σ H1 fun y H2 => tx σ H2 fun z H3 =>
  (∃ o, DGet H3 a y o ∧ Q (o.getD z) H3) ∨ ∃ kvs xs k, Rd H3 a (.dK kvs) ∧ Rep K mg H3 (.tup xs) y ∧ D.key (.tup xs) = some k ∧ k.depth ≤ 8 ∧ Q z H3
theorem pe_g2 (hu : X.A.units + 64 < cLine) (ho : PE X o td) (he : PE X e ty) (hf : PE X f tx) (m : M2 X o "get" apos e f cpos) : PE X (.Call (.Attribute o "get" apos) [e, f] [] cpos) (tG2 X.K X.mg td ty tx) := by
  refine .mk fun pins s σ H Q I h => ?_
  refine wpAny_Call_method m.base m.few m.line PySem.F.plainAttrs_dict PySem.F.slot_dict_get PySem.F.type_dict_get ?_
  refine thn (ho.run pins s σ H _ I h) fun u s1 ⟨_, H1, I1, rx, a, ex, d, q1⟩ => ?_
  subst ex
  cases (show u = Value.ref a from rx)
  have ⟨t1, t2, _⟩ := isD_at I1 d
  refine ⟨t1, t2, ?_⟩
  rw [m.trees]
  refine Calls.callWith_builtin rfl (Calls.evalArgs_plain (Calls.spliced_cons ?_))
  refine thn (he.run pins s1 σ H1 _ I1 q1) fun iv s2 ⟨y, H2, I2, ry, q2⟩ => Calls.spliced_cons ?_
  refine thn (hf.run pins s2 σ H2 _ I2 q2) fun fv s3 ⟨z, H3, I3, rz, q3⟩ => Calls.spliced_nil ?_
  rcases q3 with ⟨ov, g, q3⟩ | ⟨kvs, xs, k, e, r, ek, hd, q3⟩
  · exact d_get2 (by omega) I3 g ry rz fun w' s4 I4 rw' => ⟨_, H3, I4, rw', q3⟩
  · obtain ⟨hz, hn, vs, rel, dd⟩ := dk_rd I3.hok e
    have hk := Rep.nested I3 _ _ _ _ r ry ek
    cases r with
    | @tup _ b ws hs l =>
      cases (show iv = Value.ref b from ry)
      obtain ⟨o', es, ep, h1, h2, h3, h4, h5, h6⟩ := dd
      refine call_meetsIn PySem.F.slot_dict_get ⟨o', h1, h2.1⟩ PySem.F.entry_dict_get (PySem.F.args_dict_get_3 _ _ _) (meets_get_none (k := k) fv hn) ⟨?_, ⟨hk, hd, h1, h3, fun e' he' => ?_⟩, ⟨_, H3, I3.tok _, rz, q3⟩⟩
      · show X.A.units + 1 + 8 < cLine
        omega
      · obtain ⟨k', hk', _⟩ := h4 e' he'
        obtain ⟨ks, rfl⟩ : ∃ ks, k = .tup ks := by
          simp only [D.key] at ek
          cases q : D.keyL xs with
          | none => rw [q] at ek; cases ek
          | some ks => rw [q] at ek; cases ek; exact ⟨ks, rfl⟩
        rcases keyIs_shape hk' with ⟨i, t, _, e2⟩ | ⟨x, t, _, e2⟩
        · rw [e2]; exact ⟨.num i, .int i t, Nat.zero_le _, fun z => nomatch z⟩
        · rw [e2]; exact ⟨.text x, .text x t, Nat.zero_le _, fun z => nomatch z⟩
theorem de_get2 {m n k : M D} (hu : X.A.units + 64 < cLine) (ho : DE X W o m) (he : DE X W e n) (hf : DE X W f k) (hM : M2 X o "get" apos e f cpos := by exact ⟨rfl, rfl, rfl, rfl⟩) : DE X W (.Call (.Attribute o "get" apos) [e, f] [] cpos) (mGet2 m n k) := by
  refine PEimp (pe_g2 hu ho he hf hM) ?_
  rintro σ H Q ⟨G, ρ, S, st, p⟩
  refine ⟨G, ρ, S, st, (PostO.bind p).imp fun d ρ1 G1 H1 S1 _ ⟨t1, p1⟩ v r => ?_⟩
  cases d with
  | dK kvs =>
    have p1 : PostO X.K X.mg W G1 H1 S1 σ ρ1 ((mBind n fun y => mBind k fun z => mOpt (dGet2 (.dK kvs) y z)) ρ1) _ := p1
    cases r with
    | @dK _ a ws ha rl =>
      refine ⟨a, rfl, .inl ⟨_, (t1.st.sub.r.1 _ _ ha)⟩, G1, ρ1, S1, t1.st, (PostO.bind p1).imp fun y ρ2 G2 H2 S2 _ ⟨t2, p2⟩ yv ry => ⟨G2, ρ2, S2, t2.st, (PostO.bind p2).imp fun z ρ3 G3 H3 S3 _ ⟨t3, p3⟩ zv rz => ?_⟩⟩
      obtain ⟨d, e, p4⟩ := PostO.opt p3
      have ha3 : Rd G3 a (.dK ws) := (t2.sub.trans t3.sub).r.1 _ _ ha
      have rl3 := rl.sub (t2.sub.trans t3.sub)
      have hH : Rd H3 a (.dK ws) := t3.st.sub.r.1 _ _ ha3
      cases y with
      | str x =>
        cases ry
        have e : some ((lookK kvs (.inr x)).getD z) = some d := e
        cases e
        refine .inl ⟨valV ws (.inr x), .inl ⟨ws, .inr x, hH, rfl, rfl⟩, ?_⟩
        rcases rl3.look (k := .inr x) with ⟨h1, h2⟩ | ⟨d', v', h1, h2, h3⟩
        · rw [h1] at p4; rw [h2]
          exact p4 _ _ _ (Stp.refl t3.st) _ rz
        · rw [h1] at p4; rw [h2]
          exact p4 _ _ _ (Stp.refl t3.st) _ h3
      | int x =>
        cases ry
        have e : some ((lookK kvs (.inl x)).getD z) = some d := e
        cases e
        refine .inl ⟨valV ws (.inl x), .inl ⟨ws, .inl x, hH, rfl, rfl⟩, ?_⟩
        rcases rl3.look (k := .inl x) with ⟨h1, h2⟩ | ⟨d', v', h1, h2, h3⟩
        · rw [h1] at p4; rw [h2]
          exact p4 _ _ _ (Stp.refl t3.st) _ rz
        · rw [h1] at p4; rw [h2]
          exact p4 _ _ _ (Stp.refl t3.st) _ h3
      | tup xs =>
        have e : (match D.key (.tup xs) with | some k => if k.depth ≤ 8 then some z else none | none => none) = some d := e
        cases q : D.key (.tup xs) with
        | none => rw [q] at e; cases e
        | some kk =>
          rw [q] at e
          dsimp only at e
          by_cases hd : kk.depth ≤ 8
          · rw [if_pos hd] at e
            cases e
            exact .inr ⟨ws, xs, kk, hH, (ry.sub t3.sub).sub t3.st.sub, q, hd, p4 _ _ _ (Stp.refl t3.st) _ rz⟩
          · rw [if_neg hd] at e; cases e
      | _ => cases e
  | _ => exact p1.elim
end
end FW

set_option Elab.async false
set_option linter.all false
set_option maxRecDepth 100000
set_option maxHeartbeats 800000
/-! FW34: dicts written with text keys. -/
namespace FW
open PySem PySem.Spec L2
variable [Tc]
def zipK (ks : List Str) (ds : List D) : List (Key × D) := (ks.zip ds).map fun p => (.inr p.1, p.2)
def zipV (ks : List Str) (vs : List V) : List (Key × V) := (ks.zip vs).map fun p => (.inr p.1, p.2)
def mDisp (ks : List Str) (m : M (List D)) : M Sl := mBind m fun ds => mOpt (if decide (ds.length = ks.length) && decide ks.Nodup then some (.dct false (zipK ks ds)) else none)
section
variable {K : PySem.W.Frag} {mg : Str → Option Value} {G H G2 H2 : Hp} {S S2 : List Addr} {σ : Sg} {ρ ρ2 : Env} {p : Addr} {o o' : HO}
/-- a thing that was laid meanwhile, and is no one's, changes -/
theorem Stp.laidUpd (t : Stp K mg G H S σ ρ G2 H2 S2 σ ρ2) (hp : H p = none) (h2 : H2 p = some o) (g2 : G2 p = none) (n2 : p ∉ S2) (hn : NTb o) (hx : ∀ φ, o ≠ .ext φ) : Stp K mg G H S σ ρ G2 (upd H2 p o') S2 σ ρ2 where
  sub := t.sub
  keep := fun a u h nt n hs => by
    obtain ⟨h1, h3⟩ := t.keep a u h nt n hs
    have e : a ≠ p := fun z => by subst z; rw [hp] at h; cases h
    exact ⟨h1, by rw [upd_ne e]; exact h3⟩
  own := t.own
  trk := fun a h => by
    by_cases e : a = p
    · subst e; exact nt_none hp
    · exact t.trk a fun u hu => h u (by rw [upd_ne e]; exact hu)
  back := t.back
  st := by
    refine ⟨fun a u h => ?_, t.st.sls.mono (Sub.refl _) fun a ha => upd_ne fun e => n2 (e ▸ ha), t.st.nd, t.st.out, t.st.gno, tabs_upd t.st.tab h2 hn hx⟩
    have e : a ≠ p := fun z => by subst z; rw [g2] at h; cases h
    rw [upd_ne e]; exact t.st.sub a u h
end
theorem repK_zip {K : PySem.W.Frag} {mg : Str → Option Value} {G : Hp} : ∀ {ks : List Str} {ds : List D} {vs : List V}, RepL K mg G ds vs → RepK K mg G (zipK ks ds) (zipV ks vs)
  | [], _, _, _ => .nil
  | _ :: _, _, _, .nil => .nil
  | k :: ks, _, _, .cons a b => .cons a (repK_zip b)
theorem merge_zip : ∀ (ks : List Str) (vs : List V) (acc : List (Key × V)), ks.Nodup → (∀ k ∈ ks, ∀ q ∈ acc, q.1 ≠ .inr k) → mergeK acc (zipV ks vs) = acc ++ zipV ks vs
  | [], _, acc, _, _ => by simp [mergeK, zipV]
  | _ :: _, [], acc, _, _ => by simp [mergeK, zipV]
  | k :: ks, v :: vs, acc, hn, ha => by
    have h1 : putK acc (.inr k) v = acc ++ [(.inr k, v)] := by
      unfold putK
      rw [if_neg]
      intro h
      rw [List.any_eq_true] at h
      obtain ⟨q, hq, e⟩ := h
      exact ha k (by simp) q hq (by simpa using e)
    have hn' := List.nodup_cons.mp hn
    have ih := merge_zip ks vs (acc ++ [(.inr k, v)]) hn'.2 (fun k' hk' q hq => by
      rcases List.mem_append.mp hq with hq | hq
      · exact ha k' (by simp [hk']) q hq
      · rw [List.mem_singleton.mp hq]
        intro e
        exact hn'.1 (by cases e; exact hk'))
    show mergeK (putK acc (.inr k) v) (zipV ks vs) = _
    rw [h1, ih]
    simp [zipV]
section
variable {X : Cx} {W : WX} {pos : Pos}
/-- the pairs of a display with text keys -/
def DPs (X : Cx) (W : WX) (pos : Pos) (keys : List (Option Expr)) (values : List Expr) (ks : List Str) (m : M (List D)) : Prop := ∃ trs, PPs X pos keys values trs ∧ keys.all (·.isSome) = true ∧ keys.length = values.length ∧ keys.length = ks.length ∧
  ∀ (σ : Sg) (H : Hp) (Q : List (V × V) → Hp → Prop), (∃ G ρ S, StOk X.K X.mg G H σ ρ S ∧ PostO X.K X.mg W G H S σ ρ (m ρ) fun ds _ G' H' _ => ∀ vs, RepL X.K X.mg G' ds vs → Q ((zipV ks vs).map fun kv => (kV kv.1, kv.2)) H') → tPairs trs σ H Q
theorem dps_nil : DPs X W pos [] [] [] (mPure []) := ⟨[], pps_nil, rfl, rfl, rfl, fun σ H Q ⟨G, ρ, S, st, p⟩ => p _ _ _ (Stp.refl st) _ .nil⟩
theorem dps_cons {k : Str} {j : Nat} {kp : Pos} {v : Expr} {ks : List (Option Expr)} {vs : List Expr} {ns : List Str} {m : M D} {n : M (List D)} (h : DE X W v m) (t : DPs X W pos ks vs ns n) : DPs X W pos (some (.Constant (.str k) j kp) :: ks) (v :: vs) (k :: ns) (mCons m n) := by
  obtain ⟨trs, h1, h2, h3, h4, h5⟩ := t
  refine ⟨_, pps_cons (pe_str) h h1, by rw [List.all_cons, h2]; rfl, by simp [h3], by simp [h4], fun σ H Q ⟨G, ρ, S, st, p⟩ => ?_⟩
  refine ⟨G, ρ, S, st, (PostO.bind p).imp fun d ρ1 G1 H1 S1 _ ⟨t1, p1⟩ v r => h5 _ _ _ ⟨G1, ρ1, S1, t1.st, (PostO.bind p1).imp fun ds ρ2 G2 H2 S2 _ ⟨t2, p2⟩ vs rs => ?_⟩⟩
  exact p2 _ _ _ (Stp.refl t2.st) _ (.cons (r.sub t2.sub) rs)
theorem dx_disp {keys : List (Option Expr)} {values : List Expr} {ks : List Str} {m : M (List D)} (h : DPs X W pos keys values ks m) (h0 : keys ≠ [] := by exact List.cons_ne_nil _ _) (h15 : keys.length ≤ 15 := by decide) : DX X W (.Dict keys values pos) (mDisp ks m) := by
  obtain ⟨trs, h1, h2, h3, h4, h5⟩ := h
  refine PEimp (pe_disp h1 h2 h3 h0 h15) ?_
  rintro σ H Q ⟨G, ρ, S, st, p⟩ q hq
  have al := Al.newH (o := .dK []) st.sub hq
  have t0 := al.stp st
  refine h5 _ _ _ ⟨G, ρ, S, t0.st, (PostO.from t0 (PostO.bind0 p)).imp fun ds ρ1 G1 H1 S1 t1 ⟨t2, p1⟩ vs rs => ?_⟩
  have nq : q ∉ S := fun z => st.sls.notNt z (nt_none hq)
  obtain ⟨g1, e1⟩ := t1.keep q _ upd_same ntb_dK (st.sub.ne hq) nq
  refine ⟨e1, zipV ks vs, rfl, ?_, ?_⟩
  · unfold zipV
    rw [List.length_map, List.length_zip]
    have := Nat.min_le_left ks.length vs.length
    omega
  · obtain ⟨d, e, p2⟩ := PostO.opt p1
    split at e
    · rename_i hh
      cases e
      simp only [Bool.and_eq_true, decide_eq_true_eq] at hh
      have n1 : q ∉ S1 := fun z => by
        rcases t1.own q z with z | z
        · exact nq z
        · exact nt_not z upd_same ntb_dK
      have e2 : mergeK [] (zipV ks vs) = zipV ks vs := by
        rw [merge_zip ks vs [] hh.2 (fun _ _ _ h => by cases h)]; rfl
      rw [e2]
      refine p2 _ _ _ (t2.laidUpd hq e1 g1 n1 ntb_dK fun _ z => by cases z) (.ref q) [q] rfl (.dct upd_same (repK_zip rs)) (fun a ha => ?_) (by simp)
      rw [List.mem_singleton.mp ha]
      exact ⟨nt_none hq, n1, g1⟩
    · cases e
end
end FW

set_option Elab.async false
set_option linter.all false
set_option maxRecDepth 100000
set_option maxHeartbeats 400000
/-! FW35: more rules for the wishes. -/
namespace FW
open PySem PySem.Spec L2
variable [Tc]
theorem nc {n : Nat} : (Nat.cast (no_index (OfNat.ofNat n)) : Int) = OfNat.ofNat n := rfl
theorem atI_nat {xs : List D} (k : Nat) : atI xs (k : Int) = xs[k]? := by
  with_unfolding_all
    unfold atI ixN
    by_cases h : k < xs.length
    · have h2 : (k : Int) < xs.length := by omega
      simp [h2]
    · have h2 : ¬ (k : Int) < xs.length := by omega
      simp only [h2, if_false]
      rw [List.getElem?_eq_none (by omega)]
      simp
theorem ix_t (k : Nat) {xs : List D} : dIx (.tup xs) (.int (k : Int)) = xs[k]? := atI_nat k
theorem ix_l (k : Nat) {xs : List D} : dIx (.lst xs) (.int (k : Int)) = xs[k]? := atI_nat k
theorem ix_t0 {xs : List D} : dIx (.tup xs) (.int 0) = xs[0]? := ix_t 0
theorem ix_t1 {xs : List D} : dIx (.tup xs) (.int 1) = xs[1]? := ix_t 1
theorem ix_t2 {xs : List D} : dIx (.tup xs) (.int 2) = xs[2]? := ix_t 2
theorem ix_t3 {xs : List D} : dIx (.tup xs) (.int 3) = xs[3]? := ix_t 3
theorem ix_t4 {xs : List D} : dIx (.tup xs) (.int 4) = xs[4]? := ix_t 4
theorem ix_t5 {xs : List D} : dIx (.tup xs) (.int 5) = xs[5]? := ix_t 5
theorem ix_l0 {xs : List D} : dIx (.lst xs) (.int 0) = xs[0]? := ix_l 0
theorem ix_l1 {xs : List D} : dIx (.lst xs) (.int 1) = xs[1]? := ix_l 1
theorem ix_l2 {xs : List D} : dIx (.lst xs) (.int 2) = xs[2]? := ix_l 2
theorem ix_l3 {xs : List D} : dIx (.lst xs) (.int 3) = xs[3]? := ix_l 3
section
variable {ρ : Env} {E : EP}
theorem w_get2 {m n k : M D} {Q : D → Env → Prop} : wpE (mGet2 m n k) ρ Q E = wpE m ρ (fun d ρ1 => wpA (isDK d = true) (wpE n ρ1 (fun y ρ2 => wpE k ρ2 (fun z ρ3 => wpO (dGet2 d y z) fun r => Q r ρ3) E) E)) E := by
  with_unfolding_all
    unfold mGet2
    rw [w_bind]
    refine wpE_ext fun d ρ1 => ?_
    cases h : isDK d with
    | true =>
      rw [if_pos rfl, show (true = true) = True from eq_self true, w_at, w_bind]
      refine wpE_ext fun y ρ2 => ?_
      rw [w_bind]
      refine wpE_ext fun z ρ3 => ?_
      rw [w_opt]
    | false =>
      rw [if_neg (by decide)]
      refine propext ⟨fun h => ?_, fun h => by cases h.1⟩
      exact False.elim (by simpa [wpE, mBad, outW] using h)
theorem w_disp {ks : List Str} {m : M (List D)} {Q : Sl → Env → Prop} : wpE (mDisp ks m) ρ Q E = wpE m ρ (fun ds ρ1 => wpA (ds.length = ks.length ∧ ks.Nodup) (Q (.dct false (zipK ks ds)) ρ1)) E := by
  with_unfolding_all
    unfold mDisp
    rw [w_bind]
    refine wpE_ext fun ds ρ1 => ?_
    rw [w_opt]
    by_cases h : ds.length = ks.length ∧ ks.Nodup
    · simp [h, wpO, wpA]
    · have : ¬ (decide (ds.length = ks.length) && decide ks.Nodup) = true := by simpa using h
      rw [if_neg this]
      simp only [h, wpO, wpA, false_and]
theorem zipK_nil {ds : List D} : zipK [] ds = [] := rfl
theorem zipK_cons {k : Str} {ks : List Str} {d : D} {ds : List D} : zipK (k :: ks) (d :: ds) = (.inr k, d) :: zipK ks ds := rfl
theorem dk_yes {kvs : List (Key × D)} : isDK (.dK kvs) = true := rfl
/-! ### calls with an own thing -/
def wpOs (o : Option Sl) (K : Sl → Prop) (_t : Tg K := .t) : Prop := match o with | some s => K s | none => False
def wpHd (μ : Env) (K : Sl → Prop) (_t : Tg K := .t) : Prop := match μ with | s :: _ => K s | [] => False
theorem os_some {s : Sl} {K : Sl → Prop} : wpOs (some s) K = K s := rfl
theorem hd_cons {s : Sl} {μ : Env} {K : Sl → Prop} : wpHd (s :: μ) K = K s := rfl
theorem si_drw {io b : Bool} {x : Dw} : (Dw.sl io x).setIo b = Dw.sl b x := rfl
theorem sl_io {io : Bool} {x : Dw} : (Dw.sl io x).io = io := rfl
theorem sl_own {io : Bool} {x : Dw} : (Dw.sl io x).own = true := rfl
theorem w_callB {j n : Nat} {F : M D} {ma : M (List D)} {Q : D → Env → Prop} : wpE (mCallB j n F ma) ρ Q E = wpOw ρ[j]? (wpE ma ρ (fun ds ρ1 => wpOs ρ1[j]? fun s => wpA (s.own = true ∧ ds.length + 1 = n)
    (wpN (s.setIo true :: dats ds) fun ss => wpE F ss (fun d μ => wpHd μ fun s' => wpN (ρ1.set j (s'.setIo s.io)) fun ρ2 => Q d ρ2) fun c fs μ => wpHd μ fun s' => wpN (ρ1.set j (s'.setIo s.io)) fun ρ2 => E c fs ρ2)) E) := by
  with_unfolding_all
    unfold wpE mCallB
    cases h : ρ[j]? with
    | none => exact propext ⟨False.elim, fun q => by obtain ⟨⟨s, e, _⟩, _⟩ := q; cases e⟩
    | some s0 =>
      cases h2 : s0.own with
      | false =>
        dsimp only
        rw [h2, if_neg (by decide)]
        refine propext ⟨False.elim, fun q => ?_⟩
        obtain ⟨⟨s, e, h3⟩, _⟩ := q
        cases e
        rw [h2] at h3; cases h3
      | true =>
        dsimp only
        rw [h2, if_pos rfl]
        refine Eq.trans ?_ (propext (⟨fun q => ⟨⟨s0, rfl, h2⟩, q⟩, fun q => q.2⟩ : _ ↔ wpOw (some s0) _))
        unfold mBind
        cases hm : ma ρ with
        | err c fs ρ1 => rfl
        | bad => rfl
        | ok ds ρ1 =>
          show outW (match ρ1[j]? with | some s => _ | none => _) Q E = wpOs ρ1[j]? _
          cases h4 : ρ1[j]? with
          | none => rfl
          | some s =>
            dsimp only
            unfold wpOs wpA wpN
            dsimp only
            by_cases h5 : s.own = true ∧ ds.length + 1 = n
            · rw [if_pos (by simpa using h5)]
              refine Eq.trans ?_ (propext (⟨fun q => ⟨h5, q⟩, fun q => q.2⟩ : _ ↔ _))
              cases F (s.setIo true :: dats ds) with
              | ok d μ => cases μ <;> rfl
              | err c fs μ => cases μ <;> rfl
              | bad => rfl
            · rw [if_neg (by simpa using h5)]
              exact propext ⟨False.elim, fun q => h5 q.1⟩
theorem w_callBi {j n : Nat} {F : M D} {ma : M (List D)} {Q : D → Env → Prop} (h : wpOw ρ[j]? (wpE ma ρ (fun ds ρ1 => wpOs ρ1[j]? fun s => wpA (s.own = true ∧ ds.length + 1 = n)
    (wpN (s.setIo true :: dats ds) fun ss => wpE F ss (fun d μ => wpHd μ fun s' => wpN (ρ1.set j (s'.setIo s.io)) fun ρ2 => Q d ρ2) fun c fs μ => wpHd μ fun s' => wpN (ρ1.set j (s'.setIo s.io)) fun ρ2 => E c fs ρ2)) E)) : wpE (mCallB j n F ma) ρ Q E := by
  with_unfolding_all
    rw [w_callB]; exact h
theorem w_while {fuel : Env → Nat} {c : M Bool} {b : MS} {P : SP} : wpS (sWhile fuel c b) ρ P = flW (whileL c b (fuel ρ) ρ) P := by with_unfolding_all exact id rfl
/-- a while by what holds ahead of each turn, and a number that falls -/
theorem wpW_inv {fuel : Env → Nat} {c : M Bool} {b : MS} {P : SP} (I : Nat → Env → Prop) (step : ∀ n ρ, I n ρ → wpE c ρ (fun t ρ1 => (t = true → wpS b ρ1 (P.wl fun ρ2 => ∃ m, m < n ∧ I m ρ2)) ∧ (t = false → P.nx ρ1)) P.er) {n : Nat} (h0 : I n ρ) (hf : n < fuel ρ) : wpS (sWhile fuel c b) ρ P := by
  with_unfolding_all
    have key : ∀ (f n : Nat) (ρ : Env), I n ρ → n < f → flW (whileL c b f ρ) P := by
      intro f
      induction f with
      | zero => intro n ρ _ h; omega
      | succ f ih =>
        intro n ρ hI hn
        have s := step n ρ hI
        unfold wpE outW at s
        unfold whileL Out.fl
        revert s
        cases c ρ with
        | err _ _ _ => exact id
        | bad => exact id
        | ok t ρ1 =>
          dsimp only
          rintro ⟨s1, s2⟩
          cases t with
          | false => exact s2 rfl
          | true =>
            rw [if_pos rfl]
            have s := s1 rfl
            unfold wpS at s
            revert s
            cases b ρ1 with
            | nx ρ2 => exact fun ⟨m, hm, hI⟩ => ih m ρ2 hI (by omega)
            | ct ρ2 => exact fun ⟨m, hm, hI⟩ => ih m ρ2 hI (by omega)
            | rt _ _ => exact id
            | bk _ => exact id
            | err _ _ _ => exact id
            | bad => exact id
    exact key _ _ _ h0 hf
theorem wpE_mono {α : Type} {m : M α} {Q Q' : α → Env → Prop} {E' : EP} (h : wpE m ρ Q' E') (q : ∀ a μ, Q' a μ → Q a μ) (e : ∀ c fs μ, E' c fs μ → E c fs μ := by exact fun _ _ _ h => h.elim) : wpE m ρ Q E := by
  with_unfolding_all
    unfold wpE outW at h ⊢
    revert h
    cases m ρ with
    | ok a μ => exact q a μ
    | err c fs μ => exact e c fs μ
    | bad => exact id
theorem w_panil {Q : Env → Prop} : wpO (putAll [] [] ρ) Q = Q ρ := by with_unfolding_all exact id rfl
theorem w_pacons {i : Nat} {is : List Nat} {s : Sl} {ss : List Sl} {Q : Env → Prop} : wpO (putAll (i :: is) (s :: ss) ρ) Q = wpO (put ρ i s) fun ρ1 => wpO (putAll is ss ρ1) Q := by
  with_unfolding_all
    show wpO ((put ρ i s).bind (putAll is ss)) Q = _
    cases put ρ i s <;> rfl
theorem isn_same {b : Bool} : dIsN (.bl b) (.bl b) = some false := by with_unfolding_all (cases b <;> rfl)
theorem is_same {b : Bool} : dIs (.bl b) (.bl b) = some true := by with_unfolding_all (cases b <;> rfl)
theorem isn_tf : dIsN (.bl true) (.bl false) = some true := rfl
theorem isn_ft : dIsN (.bl false) (.bl true) = some true := rfl
theorem is_tf : dIs (.bl true) (.bl false) = some false := rfl
theorem is_ft : dIs (.bl false) (.bl true) = some false := rfl
end
end FW

set_option Elab.async false
set_option linter.all false
set_option maxRecDepth 100000
set_option maxHeartbeats 800000
/-! FW36: sorted(xs) of data, xs a list or a tuple: a new list is made of the items (heap g), and the library's list.sort puts it in order. -/
namespace FW
open PySem PySem.W PySem.Calls PyProof.Rows
/-- all that g holds, k holds too -/
def Holds (g k : Heap) : Prop := ∀ a x, g.get? a = some x → k.get? a = some x
theorem sorted_seq {prog : Program} {w : World} {A : Around} {E : Value → Shared → Prop} {s : Shared} {β : Type} {enc : β → PyData} {R : Value → β → Prop} {vs : List Value} {bs : List β} {T : String} {l : Addr} {o : Obj} {m : Nat}
    {Q : Value → Shared → Prop} (hT : T = "list" ∨ T = "tuple") (ho : s.heap.get? l = some o) (hc : o.cls = .type T) (hd : o.data = .seq vs.toArray m) (live : EachIs R vs bs)
    (rd : EachIs (fun v b => ∃ as, Reads s.heap v (enc b) as) vs bs) (al : AllAlike (bs.map enc)) (so : Sortable (bs.map enc)) (few : bs.length ≤ sizeLine) (deep : ∀ b ∈ bs, A.units + 2 + (enc b).depth < cLine)
    (done : ∀ g k p out c, Holds s.heap g → Holds g k → g.objs.size ≤ p → out.length = bs.length → EachIs R out (bs.mergeSort (dataLe false enc)) → k.get? p = some (seqObj "list" (List.toArray out) c) → Q (.ref p) { s with heap := k }) :
    wpAny (model prog w) A (call (.builtin "sorted") [.ref l]) Q E s := by
  have len : vs.length ≤ sizeLine := live.length ▸ few
  refine call_function_entry_kw (kw := []) kind_sorted plain_sorted entry_sorted (args_sorted1 _) ?_
  unfold Builtin.«sorted»
  refine wpAny_bind (m := checkCount "sorted" 1 1 1) (wpAny_pure (wpAny_bind (wpAny_collect_seq l hT ho hc hd (fun g keep => ?_) (by simpa using len))))
  rw [List.toList_toArray]
  refine wpAny_bind (wpAny_newList ?_ len)
  have hp : (g.push (seqObj "list" vs.toArray 0)).get? g.objs.size = some (seqObj "list" vs.toArray 0) := Heap.get?_push_size g rfl
  have rd2 : EachIs (fun v b => ∃ as, Reads (g.push (seqObj "list" vs.toArray 0)) v (enc b) as ∧ g.objs.size ∉ as) vs bs := rd.mono fun v b ⟨as, r⟩ => ⟨as, PyProof.Rows.Reads.keeps (fun a x e => Heap.get?_push_of_some _ (keep a x e)) r, fun z => by
    obtain ⟨x, e⟩ := PyProof.On.reads_mem_get r _ z
    exact absurd (Heap.lt_size (keep _ _ e)) (Nat.lt_irrefl _)⟩
  have room : ∀ b ∈ bs, A.in1.units + 1 + (enc b).depth < cLine := fun b hb => by
    have := deep b hb
    show A.units + 1 + 1 + (enc b).depth < cLine
    omega
  refine wpAny_bind (wpAny_holding (list_sort_data (A := A.in1) (s := { s with heap := g.push (seqObj "list" vs.toArray 0) }) hp live rd2 al so few room fun out lo eo => wpAny_pure ⟨_, rfl, ?_⟩))
  obtain ⟨c, hc'⟩ := sortedHeap_at (out := out.toArray) hp
  refine done g _ _ out c keep (fun a x e => ?_) (Nat.le_refl _) lo eo hc'
  have la := Heap.lt_size e
  exact (sortedHeap_old (Nat.ne_of_lt la) (by rw [size_push']; exact Nat.lt_succ_of_lt la)).trans (Heap.get?_push_of_some _ e)
end FW

set_option Elab.async false
set_option linter.all false
set_option maxRecDepth 100000
set_option maxHeartbeats 800000
/-! FW37: sorted by values. -/
namespace FW
open PySem PySem.Spec L2
open PySem.W (EachIs AllAlike Sortable dataLe alike)
variable [Tc]
/-- data as the library reads it -/
def encD (d : D) : PyData := d.py.getD .none
def isTup1 : PyData → Bool | .tuple (_ :: _) => true | _ => false
def noTup : PyData → Bool | .tuple _ => false | .none => false | _ => true
/-- what may be sorted: alike data, not too deep -/
def srtOk (xs : List D) : Bool := xs.all (fun d => d.py.isSome && decide ((encD d).depth ≤ 32)) && xs.all (fun d => xs.all fun e => alike (encD d) (encD e)) && (xs.all (fun d => isTup1 (encD d)) || xs.all fun d => noTup (encD d)) && decide (xs.length ≤ sizeLine)
def leD : D → D → Bool := dataLe false encD
def sortD (xs : List D) : Option D := if srtOk xs then some (.lst (xs.mergeSort leD)) else none
def gSorted : List D → Option D
  | [.lst xs] => sortD xs | [.rol xs] => sortD xs | [.tup xs] => sortD xs | _ => none
section
variable {X : Cx}
def RX (K : PySem.W.Frag) (mg : Str → Option Value) (G : Hp) (v : Value) (d : D) : Prop := ∃ x, RelV x v ∧ Rep K mg G d x
theorem each_of {K : PySem.W.Frag} {mg : Str → Option Value} {G : Hp} : ∀ {ds : List D} {xs : List V} {vs : List Value}, RepL K mg G ds xs → Vals xs vs → EachIs (RX K mg G) vs ds
  | _, _, _, .nil, .nil => .nil
  | _, _, _, .cons a l, .cons r rs => .cons ⟨_, r, a⟩ (each_of l rs)
theorem of_each {K : PySem.W.Frag} {mg : Str → Option Value} {G : Hp} : ∀ {ds : List D} {vs : List Value}, EachIs (RX K mg G) vs ds → ∃ xs, Vals xs vs ∧ RepL K mg G ds xs
  | _, _, .nil => ⟨[], .nil, .nil⟩
  | _, _, .cons ⟨x, r, a⟩ t => by
    obtain ⟨xs, h1, h2⟩ := of_each t
    exact ⟨x :: xs, .cons r h1, .cons a h2⟩
theorem each_all {α β : Type} {R S : α → β → Prop} : ∀ {as : List α} {bs : List β}, EachIs R as bs → (∀ a b, b ∈ bs → R a b → S a b) → EachIs S as bs
  | _, _, .nil, _ => .nil
  | _, _, .cons a l, h => .cons (h _ _ (by simp) a) (each_all l fun a b hb => h a b (by simp [hb]))
theorem vals_len {xs : List V} {vs : List Value} (h : Vals xs vs) : xs.length = vs.length := by
  induction h with
  | nil => rfl
  | cons _ _ ih => simp [ih]
def rSortD (K : PySem.W.Frag) (mg : Str → Option Value) : List V → Hp → VK → Prop := fun vs H Q => ∃ a xs ds G, vs = [V.ref a] ∧ (SqL K H a xs ∨ SqT K H a xs) ∧ Sub G H ∧ RepL K mg G ds xs ∧ srtOk ds = true ∧
  ∀ ys p, RepL K mg G (ds.mergeSort leD) ys → H p = none → Q (.ref p) (upd H p (.lst ys))
theorem cr_sortedD (hu : X.A.units + 64 < cLine) : CallR X (.builtin "sorted") (rSortD X.K X.mg) := by
  intro pins s σ H vs us Q I r h
  obtain ⟨a, xs, ds, G, rfl, hs, sub, l, ok, q⟩ := h
  rw [Vals.ref1 r]
  unfold srtOk at ok
  simp only [Bool.and_eq_true, Bool.or_eq_true, List.all_eq_true, decide_eq_true_eq] at ok
  obtain ⟨⟨⟨o1, o2⟩, o3⟩, o4⟩ := ok
  have key : ∀ (its : List Value), Vals xs its → EachIs (RX X.K X.mg G) its ds ∧ EachIs (fun v b => ∃ as, Reads s.heap v (encD b) as) its ds := fun its rv => by
    have e := each_of l rv
    refine ⟨e, each_all e fun v d hd ⟨x, r1, r2⟩ => ?_⟩
    obtain ⟨p, hp⟩ := Option.isSome_iff_exists.mp (o1 d hd).1
    have : encD d = p := by unfold encD; rw [hp]; rfl
    rw [this]
    exact Dp.reads I p x v ((r2.sub sub).dp _ _ _ hp) r1
  have hal : AllAlike (ds.map encD) := fun d hd d' hd' => by
    obtain ⟨b, hb, rfl⟩ := List.mem_map.mp hd
    obtain ⟨b', hb', rfl⟩ := List.mem_map.mp hd'
    exact o2 b hb b' hb'
  have hk : Sortable (ds.map encD) := by
    rcases o3 with o3 | o3
    · refine .inl fun d hd => ?_
      obtain ⟨b, hb, rfl⟩ := List.mem_map.mp hd
      have := o3 b hb
      revert this
      unfold isTup1
      split
      · intro _; exact ⟨_, _, ‹_›⟩
      · intro z; cases z
    · refine .inr fun d hd => ?_
      obtain ⟨b, hb, rfl⟩ := List.mem_map.mp hd
      have := o3 b hb
      revert this
      unfold noTup
      split
      · intro z; cases z
      · intro z; cases z
      · intro _; exact ⟨by assumption, by assumption⟩
  have hd : ∀ b, b ∈ ds → X.A.units + 2 + (encD b).depth < cLine := fun b hb => by
    have := (o1 b hb).2
    omega
  have go : ∀ (its : List Value) (T : String) (o : Obj) (m : Nat), Vals xs its → (T = "list" ∨ T = "tuple") → s.heap.get? a = some o → o.cls = .type T → o.data = .seq its.toArray m →
      wpAny (model X.prog X.w) X.A (call (.builtin "sorted") [.ref a]) (L2.EP X pins σ Q) X.xe s := fun its T o m rv hT ho hc hz => by
    obtain ⟨e1, e2⟩ := key its rv
    refine sorted_seq hT ho hc hz e1 e2 hal hk o4 hd fun g k p out c k1 k2 low lo eo at_ => ?_
    obtain ⟨ys, y1, y2⟩ := of_each eo
    have J := I.kept (t' := s.toks) k1
    exact ⟨.ref p, upd H p (.lst ys), J.laid (t' := s.toks) k2 low ⟨by rw [vals_len y1, lo]; exact o4, out, c, y1, at_⟩, rfl, q _ _ y2 (J.hok.fresh low)⟩
  rcases hs with hs | hs
  · obtain ⟨its, rv, hl, _⟩ := I.list hs
    obtain ⟨o, n, ho, hc, _, hz⟩ := hl
    exact go its _ o n rv (.inl rfl) ho hc hz
  · obtain ⟨its, rv, ⟨o, ho, hc, n, hz⟩, _⟩ := I.tuple hs
    exact go its _ o n rv (.inr rfl) ho hc hz
theorem c_sorted (hu : X.A.units + 64 < cLine) : HasCall X (.builtin "sorted") gSorted := by
  refine ⟨_, cr_sortedD hu, fun G H ds d xs Q s rs e q => ?_⟩
  cases rs with
  | nil => cases e
  | cons a b =>
    cases b with
    | cons _ _ => cases a <;> cases e
    | nil =>
      cases a with
      | @lst zs a ws h l =>
        have e : sortD zs = some d := e
        unfold sortD at e
        split at e
        · rename_i ok
          cases e
          exact ⟨_, _, zs, G, rfl, .inl (.inl (.inl (s _ _ h))), s, l, ok, fun ys p y hp => q _ _ _ (Al.new s hp) (.lst upd_same (y.sub (Al.new s hp).sub))⟩
        · cases e
      | @rol zs a ws h l =>
        have e : sortD zs = some d := e
        unfold sortD at e
        split at e
        · rename_i ok
          cases e
          exact ⟨_, _, zs, G, rfl, .inl (sqL_rsub s.r h), s, l, ok, fun ys p y hp => q _ _ _ (Al.new s hp) (.lst upd_same (y.sub (Al.new s hp).sub))⟩
        · cases e
      | @tup zs a ws h l =>
        have e : sortD zs = some d := e
        unfold sortD at e
        split at e
        · rename_i ok
          cases e
          exact ⟨_, _, zs, G, rfl, .inr (sqT_rsub s.r h), s, l, ok, fun ys p y hp => q _ _ _ (Al.new s hp) (.lst upd_same (y.sub (Al.new s hp).sub))⟩
        · cases e
      | _ => cases e
end
end FW

set_option Elab.async false
set_option linter.all false
set_option maxRecDepth 100000
set_option maxHeartbeats 800000
/-! FW38: slices of lists and tuples. -/
namespace FW
open PySem PySem.Spec L2
open RZ (ItzT pi_zipA)
variable [Tc]
def cut {α : Type} (xs : List α) (lo hi : Option Int) : List α := (xs.drop (HT.sIx xs.length 0 lo)).take (HT.sIx xs.length xs.length hi - HT.sIx xs.length 0 lo)
theorem RepL.drop {K : PySem.W.Frag} {mg : Str → Option Value} {G : Hp} : ∀ (n : Nat) {ds : List D} {vs : List V}, RepL K mg G ds vs → RepL K mg G (ds.drop n) (vs.drop n)
  | 0, _, _, h => h
  | _ + 1, _, _, .nil => .nil
  | n + 1, _, _, .cons _ t => RepL.drop n t
theorem RepL.take {K : PySem.W.Frag} {mg : Str → Option Value} {G : Hp} : ∀ (n : Nat) {ds : List D} {vs : List V}, RepL K mg G ds vs → RepL K mg G (ds.take n) (vs.take n)
  | 0, _, _, _ => .nil
  | _ + 1, _, _, .nil => .nil
  | n + 1, _, _, .cons a t => .cons a (RepL.take n t)
theorem RepL.cut {K : PySem.W.Frag} {mg : Str → Option Value} {G : Hp} {ds : List D} {vs : List V} (h : RepL K mg G ds vs) (lo hi : Option Int) : RepL K mg G (cut ds lo hi) (cutV vs lo hi) := by
  unfold FW.cut cutV
  rw [h.length]
  exact (h.drop _).take _
def dSlice : D → Option Int → Option Int → Option D
  | .lst xs, lo, hi => some (.lst (cut xs lo hi)) | .rol xs, lo, hi => some (.lst (cut xs lo hi)) | .tup xs, lo, hi => some (.tup (cut xs lo hi)) | _, _, _ => none
def mNoP : M (Option Int) := mPure none
def mPart (m : M D) : M (Option Int) := mBind m fun d => mOpt (match d with | .int i => some (some i) | _ => none)
def mSlice (m : M D) (lo hi : M (Option Int)) : M D := mBind m fun d => mBind lo fun l => mBind hi fun h => mOpt (dSlice d l h)
def rdO (K : PySem.W.Frag) (mg : Str → Option Value) (W : WX) (m : M (Option Int)) : TO := fun σ H Q => ∃ G ρ S, StOk K mg G H σ ρ S ∧ PostO K mg W G H S σ ρ (m ρ) fun o _ _ H' _ => Q o H'
section
variable {X : Cx} {W : WX} {e e2 : Expr} {m : M D} {p1 p2 pos : Pos}
def DPO (X : Cx) (W : WX) (e : Option Expr) (m : M (Option Int)) : Prop := ∃ t, PO X e t ∧ ∀ σ H Q, rdO X.K X.mg W m σ H Q → t σ H Q
theorem dp_none : DPO X W none mNoP := ⟨_, po_none, fun σ H Q ⟨G, ρ, S, st, p⟩ => p _ _ _ (Stp.refl st)⟩
theorem dp_some (h : DE X W e m) : DPO X W (some e) (mPart m) := ⟨_, po_some h, fun σ H Q ⟨G, ρ, S, st, p⟩ => ⟨G, ρ, S, st, (PostO.bind p).imp fun d ρ1 G1 H1 S1 _ ⟨t1, p1⟩ v r => by
  obtain ⟨o, e, p2⟩ := PostO.opt p1
  cases r with
  | int i => cases e; exact ⟨i, rfl, p2 _ _ _ (Stp.refl t1.st)⟩
  | _ => cases e⟩⟩
theorem de_slice {lo hi : Option Expr} {ml mh : M (Option Int)} (he : DE X W e m) (hl : DPO X W lo ml) (hh : DPO X W hi mh) : DE X W (.Subscript e (.Slice lo hi none p2) pos) (mSlice m ml mh) := by
  obtain ⟨tl, l1, l2⟩ := hl
  obtain ⟨th, h1, h2⟩ := hh
  refine PEimp (pe_slice (SlR.or sl_list sl_tupA) he l1 h1) ?_
  rintro σ H Q ⟨G, ρ, S, st, p⟩
  refine ⟨G, ρ, S, st, (PostO.bind p).imp fun d ρ1 G1 H1 S1 _ ⟨t1, p1⟩ v r => l2 _ _ _ ⟨G1, ρ1, S1, t1.st, (PostO.bind p1).imp fun l ρ2 G2 H2 S2 _ ⟨t2, p2⟩ => h2 _ _ _ ⟨G2, ρ2, S2, t2.st, (PostO.bind p2).imp fun h ρ3 G3 H3 S3 _ ⟨t3, p3⟩ => ?_⟩⟩⟩
  obtain ⟨d', e', p4⟩ := PostO.opt p3
  have r3 := (r.sub t2.sub).sub t3.sub
  have s3 := t3.st.sub
  cases r3 with
  | @lst xs a vs hx lx =>
    cases e'
    refine .inl ⟨a, vs, rfl, .inl (.inl (s3 _ _ hx)), fun p hp => ?_⟩
    have al := Al.new (o := .lst (cutV vs l h)) s3 hp
    exact p4 _ _ _ (al.stp t3.st) _ (.lst upd_same ((lx.cut l h).sub al.sub))
  | @rol xs a vs hx lx =>
    cases e'
    refine .inl ⟨a, vs, rfl, sqL_rsub s3.r hx, fun p hp => ?_⟩
    have al := Al.new (o := .lst (cutV vs l h)) s3 hp
    exact p4 _ _ _ (al.stp t3.st) _ (.lst upd_same ((lx.cut l h).sub al.sub))
  | @tup xs a vs hx lx =>
    cases e'
    refine .inr ⟨a, vs, rfl, sqT_rsub s3.r hx, fun all => ?_, fun _ p hp => ?_⟩
    · have ec : FW.cut xs l h = xs := by
        unfold FW.cut
        rw [lx.length, all.1, all.2]
        simp [← lx.length]
      have q := p4 _ _ _ (Stp.refl t3.st) (.ref a)
      rw [ec] at q
      exact q (.tup hx lx)
    · have al := Al.new (o := .tup (cutV vs l h)) s3 hp
      exact p4 _ _ _ (al.stp t3.st) _ (.tup (.inl (.inl upd_same)) ((lx.cut l h).sub al.sub))
  | _ => cases e'
/-! ### zip -/
def zipD (xs ys : List D) : List D := (xs.zip ys).map fun p => .tup [p.1, p.2]
theorem zipD_get {xs ys : List D} {i : Nat} {d : D} (e : (zipD xs ys)[i]? = some d) : ∃ x y, xs[i]? = some x ∧ ys[i]? = some y ∧ d = .tup [x, y] := by
  unfold zipD at e
  rw [List.getElem?_map] at e
  cases q : (xs.zip ys)[i]? with
  | none => rw [q] at e; cases e
  | some p =>
    rw [q] at e
    cases e
    obtain ⟨h1, h2⟩ := List.getElem?_zip_eq_some.mp q
    exact ⟨_, _, h1, h2, rfl⟩
theorem zipD_len {xs ys : List D} : (zipD xs ys).length = min xs.length ys.length := by simp [zipD]
theorem wk_zip {K : PySem.W.Frag} {mg : Str → Option Value} {a b : Addr} {ds es : List D} {vs ws : List V} : Wk K mg (Itz K a b) (fun G => (SqL K G a vs ∧ RepL K mg G ds vs) ∧ SqL K G b ws ∧ RepL K mg G es ws) (zipD ds es) where
  mono := fun G G' s h => ⟨⟨sqL_rsub s.r h.1.1, h.1.2.sub s⟩, sqL_rsub s.r h.2.1, h.2.2.sub s⟩
  go := fun i G H s h hi => by
    rw [zipD_len] at hi
    have h1 : i < vs.length := by rw [← h.1.2.length]; omega
    have h2 : i < ws.length := by rw [← h.2.2.length]; omega
    exact ⟨vs, ws, vs[i], ws[i], sqL_rsub s.r h.1.1, sqL_rsub s.r h.2.1, by simp, by simp⟩
  stop := fun G H s h => ⟨vs, ws, sqL_rsub s.r h.1.1, sqL_rsub s.r h.2.1, by rw [zipD_len, h.1.2.length, h.2.2.length]; omega⟩
  yld := fun i G H x H' d s h y e => by
    obtain ⟨T, v, u, rfl, hT, rfl, h1, h2⟩ := y
    obtain ⟨d1, d2, g1, g2, rfl⟩ := zipD_get e
    have al := Al.new (o := .tup [v, u]) s hT
    exact ⟨_, al, .tup (.inl (.inl upd_same)) (.cons ((h.1.2.item g1 (h1 vs (sqL_rsub s.r h.1.1))).sub al.sub) (.cons ((h.2.2.item g2 (h2 ws (sqL_rsub s.r h.2.1))).sub al.sub) .nil))⟩
theorem wk_zipT {K : PySem.W.Frag} {mg : Str → Option Value} {a b : Addr} {ds es : List D} {vs ws : List V} : Wk K mg (ItzT K a b) (fun G => (SqT K G a vs ∧ RepL K mg G ds vs) ∧ SqT K G b ws ∧ RepL K mg G es ws) (zipD ds es) where
  mono := fun G G' s h => ⟨⟨sqT_rsub s.r h.1.1, h.1.2.sub s⟩, sqT_rsub s.r h.2.1, h.2.2.sub s⟩
  go := fun i G H s h hi => by
    rw [zipD_len] at hi
    have h1 : i < vs.length := by rw [← h.1.2.length]; omega
    have h2 : i < ws.length := by rw [← h.2.2.length]; omega
    exact ⟨vs, ws, vs[i], ws[i], sqT_rsub s.r h.1.1, sqT_rsub s.r h.2.1, by simp, by simp⟩
  stop := fun G H s h => ⟨vs, ws, sqT_rsub s.r h.1.1, sqT_rsub s.r h.2.1, by rw [zipD_len, h.1.2.length, h.2.2.length]; omega⟩
  yld := fun i G H x H' d s h y e => by
    obtain ⟨T, v, u, rfl, hT, rfl, h1, h2⟩ := y
    obtain ⟨d1, d2, g1, g2, rfl⟩ := zipD_get e
    have al := Al.new (o := .tup [v, u]) s hT
    exact ⟨_, al, .tup (.inl (.inl upd_same)) (.cons ((h.1.2.item g1 (h1 vs (sqT_rsub s.r h.1.1))).sub al.sub) (.cons ((h.2.2.item g2 (h2 ws (sqT_rsub s.r h.2.1))).sub al.sub) .nil))⟩
def dZip : List D → Option (List D)
  | [.lst xs, .lst ys] => some (zipD xs ys) | [.lst xs, .rol ys] => some (zipD xs ys) | [.rol xs, .lst ys] => some (zipD xs ys) | [.rol xs, .rol ys] => some (zipD xs ys) | [.tup xs, .tup ys] => some (zipD xs ys) | _ => none
def mZip (ma : M (List D)) : M (List D) := mBind ma fun ds => mOpt (dZip ds)
theorem Rep.sqL {K : PySem.W.Frag} {mg : Str → Option Value} {G : Hp} {xs : List D} {v : V} (h : Rep K mg G (.lst xs) v ∨ Rep K mg G (.rol xs) v) : ∃ a vs, v = .ref a ∧ SqL K G a vs ∧ RepL K mg G xs vs := by
  rcases h with h | h
  · cases h with | lst h l => exact ⟨_, _, rfl, .inl (.inl h), l⟩
  · cases h with | rol h l => exact ⟨_, _, rfl, h, l⟩
theorem di_zip {elts : List Expr} {kk : Nat} {tpos : Pos} {ma : M (List D)} (hm : X.mg "zip" = none) (ha : DA X W [e, e2] ma) (hg : Gl X "zip" := by rfl) (hs : starEach [e, e2] X.env = (false, eval e X.env) :: starEach [e2] X.env := by rfl) (hpl : (backTo pos (starEach [e2] X.env)).any (·.1) = false := by rfl) :
    DI X W (.Tuple elts kk tpos) (.Call (.Name "zip" p1) [e, e2] [] pos) (mZip ma) := by
  refine PIimp (pi_zipA hg hm ha hs hpl) ?_
  rintro σ H R ⟨G, ρ, S, st, p⟩
  refine ⟨G, ρ, S, st, (PostO.bind p).imp fun ds ρ1 G1 H1 S1 _ ⟨t1, p1⟩ vs r => ?_⟩
  obtain ⟨ds', e', p2⟩ := PostO.opt p1
  have s1 := t1.st.sub
  have fin : ∀ {xs ys : List D} {v u : V}, (Rep X.K X.mg G1 (.lst xs) v ∨ Rep X.K X.mg G1 (.rol xs) v) → (Rep X.K X.mg G1 (.lst ys) u ∨ Rep X.K X.mg G1 (.rol ys) u) → ds' = zipD xs ys →
      ∃ a b xs' ys', [v, u] = [V.ref a, .ref b] ∧ ((SqL X.K H1 a xs' ∧ SqL X.K H1 b ys' ∧ R (Itz X.K a b) H1) ∨ (SqT X.K H1 a xs' ∧ SqT X.K H1 b ys' ∧ R (ItzT X.K a b) H1)) := by
    intro xs ys v u h1 h2 ez
    subst ez
    obtain ⟨a, vs, rfl, g1, l1⟩ := Rep.sqL h1
    obtain ⟨b, ws, rfl, g2, l2⟩ := Rep.sqL h2
    exact ⟨a, b, vs, ws, rfl, .inl ⟨sqL_rsub s1.r g1, sqL_rsub s1.r g2, p2 _ _ _ (Stp.refl t1.st) _ _ wk_zip ⟨⟨g1, l1⟩, g2, l2⟩⟩⟩
  unfold dZip at e'
  split at e'
  all_goals (try cases e')
  · cases r with | cons r1 r => cases r with | cons r2 r => cases r; exact fin (.inl r1) (.inl r2) rfl
  · cases r with | cons r1 r => cases r with | cons r2 r => cases r; exact fin (.inl r1) (.inr r2) rfl
  · cases r with | cons r1 r => cases r with | cons r2 r => cases r; exact fin (.inr r1) (.inl r2) rfl
  · cases r with | cons r1 r => cases r with | cons r2 r => cases r; exact fin (.inr r1) (.inr r2) rfl
  · cases r with
    | cons r1 r =>
      cases r with
      | cons r2 r =>
        cases r
        cases r1 with
        | tup g1 l1 =>
          cases r2 with
          | tup g2 l2 => exact ⟨_, _, _, _, rfl, .inr ⟨sqT_rsub s1.r g1, sqT_rsub s1.r g2, p2 _ _ _ (Stp.refl t1.st) _ _ wk_zipT ⟨⟨g1, l1⟩, g2, l2⟩⟩⟩
/-! ### a tuple, many times -/
def dRep : D → D → Option D
  | .tup xs, .int k => if decide (xs ≠ []) && (decide (2 ≤ k) && (decide (k ≤ 1000) && decide (xs.length ≤ 1000))) then some (.tup (List.replicate k.toNat xs).flatten) else none
  | _, _ => none
theorem RepL.rep {K : PySem.W.Frag} {mg : Str → Option Value} {G : Hp} {ds : List D} {vs : List V} (h : RepL K mg G ds vs) : ∀ n : Nat, RepL K mg G (List.replicate n ds).flatten (List.replicate n vs).flatten
  | 0 => .nil
  | n + 1 => by
    rw [List.replicate_succ, List.replicate_succ, List.flatten_cons, List.flatten_cons]
    exact h.append (RepL.rep h n)
theorem o_rep : HasOp X (binaryOp .Mult) dRep := by
  refine ⟨_, op_repT, fun G H a b d x y Q s ra rb e q => ?_⟩
  cases ra with
  | @tup xs c vs hx l =>
    cases rb with
    | int k =>
      have e : (if decide (xs ≠ []) && (decide (2 ≤ k) && (decide (k ≤ 1000) && decide (xs.length ≤ 1000))) then some (D.tup (List.replicate k.toNat xs).flatten) else none) = some d := e
      split at e
      · rename_i h
        cases e
        simp only [Bool.and_eq_true, decide_eq_true_eq] at h
        refine ⟨_, _, _, rfl, rfl, sqT_rsub s.r hx, fun z => ?_, h.2.1, h.2.2.1, by rw [← l.length]; exact h.2.2.2, fun p hp => ?_⟩
        · subst z; cases l; exact h.1 rfl
        · have al := Al.new (o := .tup (List.replicate k.toNat vs).flatten) s hp
          exact q _ _ _ al (.tup (.inl (.inl upd_same)) ((l.rep k.toNat).sub al.sub))
      · cases e
    | _ => cases e
  | _ => cases e
end
end FW

set_option Elab.async false
set_option linter.all false
set_option maxRecDepth 100000
set_option maxHeartbeats 800000
/-! FW39: own lists looked at, shortened. -/
namespace FW
open PySem PySem.Spec L2
variable [Tc]
/-- an own list in slot i -/
theorem own_at {K : PySem.W.Frag} {mg : Str → Option Value} {G H : Hp} {S : List Addr} {σ : Sg} {ρ : Env} {i : Nat} {io : Bool} {xs : List D} (st : StOk K mg G H σ ρ S) (e : ρ[i]? = some (.lst io xs)) : ∃ p vs, σ[i]? = some (some (.ref p)) ∧ H p = some (.lst vs) ∧ RepL K mg G xs vs ∧
    ∀ (xs' : List D) (vs' : List V), RepL K mg G xs' vs' → Stp K mg G H S σ ρ G (upd H p (.lst vs')) S σ (ρ.set i (.lst io xs')) := by
  obtain ⟨o, S1, T, S2, h1, h2, h3, h4⟩ := st.sls.at e
  cases h3 with
  | @lst io xs p vs hp l =>
    subst h2
    exact ⟨p, vs, h1, hp, l, fun xs' vs' r => own_set (o := .lst vs') (s' := .lst io xs') st e h1 (fun z => z) h4 hp ntb_lst (fun _ h => nomatch h) (.lst upd_same r)⟩
def mOwnNe (i : Nat) : M Bool := fun ρ => match ρ[i]? with | some (.lst _ xs) => (match dNe (.lst xs) (.lst []) with | some b => .ok b ρ | none => .bad) | _ => .bad
def mOwnEq (i : Nat) : M Bool := fun ρ => match ρ[i]? with | some (.lst _ xs) => (match dEq (.lst xs) (.lst []) with | some b => .ok b ρ | none => .bad) | _ => .bad
def mOwnLen (i : Nat) : M D := fun ρ => match ρ[i]? with | some (.lst _ xs) => .ok (.int xs.length) ρ | _ => .bad
def ixW (i : Nat) (d : D) : M D := fun ρ => match d with
  | .int k => (match ρ[i]? with | some (.lst _ xs) => (match atI xs k with | some x => .ok x ρ | none => .bad) | _ => .bad)
  | _ => .bad
def mOwnIx (i : Nat) (m : M D) : M D := fun ρ0 => match ρ0[i]? with | some (.lst _ _) => mBind m (ixW i) ρ0 | _ => .bad
def popW (i : Nat) (d : D) : M D := fun ρ => match d with
  | .int k => (match ρ[i]? with
    | some (.lst io xs) => if decide (-(2 ^ 63) ≤ k) && decide (k < 2 ^ 63) then (match seqIndex? k xs.length with | some j => (match xs[j]? with | some x => .ok x (ρ.set i (.lst io (xs.eraseIdx j))) | none => .bad) | none => .bad) else .bad
    | _ => .bad)
  | _ => .bad
def mOwnPop (i : Nat) (m : M D) : M D := fun ρ0 => match ρ0[i]? with | some (.lst _ _) => mBind m (popW i) ρ0 | _ => .bad
theorem RepL.erase {K : PySem.W.Frag} {mg : Str → Option Value} {G : Hp} : ∀ (n : Nat) {ds : List D} {vs : List V}, RepL K mg G ds vs → RepL K mg G (ds.eraseIdx n) (vs.eraseIdx n)
  | _, _, _, .nil => .nil
  | 0, _, _, .cons _ t => t
  | n + 1, _, _, .cons a t => .cons a (RepL.erase n t)
section
variable {X : Cx} {W : WX} {e : Expr} {m : M D} {p1 p2 p3 pos pos' apos cpos : Pos} {y : Str}
theorem dt_ownNe (i : Nat) (hu : X.A.units + 64 < cLine) (hN : X.N[i]? = some y := by rfl) (hv : Vis X.env.scope y := by first | exact Or.inl rfl | exact Or.inr (Or.inl rfl) | exact Or.inr (Or.inr rfl)) (hd : (y == ("__debug__" : Str)) = false := by decide) (hcd : (y == ("__classdict__" : Str)) = false := by decide)
    (hm : behindInMarks .NotEq (.List [] p3) = false := by rfl) : DT X W (.Compare (.Name y p1) [.NotEq] [.List [] p3] pos') (mOwnNe i) := by
  refine PTimp (pt_cmpR (op_neP hu) (pe_var hN hv hd hcd) (pe_lst pa_nil) hm) ?_
  rintro σ H Q ⟨G, ρ, S, st, p⟩
  unfold mOwnNe at p
  split at p
  · rename_i e
    obtain ⟨q, vs, h1, h2, h3, _⟩ := own_at st e
    refine ⟨_, h1, Nat.zero_le _, fun a ha => ?_⟩
    split at p
    · rename_i b e2
      have h3' : upd H a (.lst []) q = some (.lst vs) := (upd_ne (ne_of_none h2 ha)).trans h2
      have al := Al.newH (o := .lst []) st.sub ha
      have r1 : Rep X.K X.mg (upd H a (.lst [])) (.lst _) (.ref q) := .lst h3' (h3.sub al.subH)
      have r2 : Rep X.K X.mg (upd H a (.lst [])) (.lst []) (.ref a) := .lst upd_same .nil
      unfold dNe at e2
      cases w : dEq (.lst _) (.lst []) with
      | none => rw [w] at e2; cases e2
      | some z =>
        rw [w] at e2; cases e2
        obtain ⟨d1, d2, e3, e4, s1, s2, rfl⟩ := dEq_some w
        exact ⟨d1, d2, r1.dp _ _ _ e3, r2.dp _ _ _ e4, s1, s2, _, rfl, p _ _ _ (al.stp st)⟩
    · exact p.elim
  · exact p.elim
theorem dt_ownEq (i : Nat) (hu : X.A.units + 64 < cLine) (hN : X.N[i]? = some y := by rfl) (hv : Vis X.env.scope y := by first | exact Or.inl rfl | exact Or.inr (Or.inl rfl) | exact Or.inr (Or.inr rfl)) (hd : (y == ("__debug__" : Str)) = false := by decide) (hcd : (y == ("__classdict__" : Str)) = false := by decide)
    (hm : behindInMarks .Eq (.List [] p3) = false := by rfl) : DT X W (.Compare (.Name y p1) [.Eq] [.List [] p3] pos') (mOwnEq i) := by
  refine PTimp (pt_cmpR (op_eqP hu) (pe_var hN hv hd hcd) (pe_lst pa_nil) hm) ?_
  rintro σ H Q ⟨G, ρ, S, st, p⟩
  unfold mOwnEq at p
  split at p
  · rename_i e
    obtain ⟨q, vs, h1, h2, h3, _⟩ := own_at st e
    refine ⟨_, h1, Nat.zero_le _, fun a ha => ?_⟩
    split at p
    · rename_i b e2
      have h3' : upd H a (.lst []) q = some (.lst vs) := (upd_ne (ne_of_none h2 ha)).trans h2
      have al := Al.newH (o := .lst []) st.sub ha
      have r1 : Rep X.K X.mg (upd H a (.lst [])) (.lst _) (.ref q) := .lst h3' (h3.sub al.subH)
      have r2 : Rep X.K X.mg (upd H a (.lst [])) (.lst []) (.ref a) := .lst upd_same .nil
      obtain ⟨d1, d2, e3, e4, s1, s2, rfl⟩ := dEq_some e2
      exact ⟨d1, d2, r1.dp _ _ _ e3, r2.dp _ _ _ e4, s1, s2, _, rfl, p _ _ _ (al.stp st)⟩
    · exact p.elim
  · exact p.elim
theorem de_ownLen (i : Nat) (hml : X.mg "len" = none) (hN : X.N[i]? = some y := by rfl) (hv : Vis X.env.scope y := by first | exact Or.inl rfl | exact Or.inr (Or.inl rfl) | exact Or.inr (Or.inr rfl)) (hd : (y == ("__debug__" : Str)) = false := by decide) (hcd : (y == ("__classdict__" : Str)) = false := by decide)
    (hg : Gl X "len" := by rfl) (he : starEach [.Name y p1] X.env = (false, eval (.Name y p1) X.env) :: starEach [] X.env := by rfl) (hpl : (backTo pos (starEach [] X.env)).any (·.1) = false := by rfl) : DE X W (.Call (.Name "len" p2) [.Name y p1] [] pos) (mOwnLen i) := by
  refine PEimp (pe_callB call_len_seq hg hml (by decide +kernel) (pa_cons (pe_var hN hv hd hcd) pa_nil he) (by decide) (by decide) he hpl) ?_
  rintro σ H Q ⟨G, ρ, S, st, p⟩
  unfold mOwnLen at p
  split at p
  · rename_i e
    obtain ⟨q, vs, h1, h2, h3, _⟩ := own_at st e
    exact ⟨_, h1, q, vs, rfl, .inl (.inl (.inl h2)), p _ _ _ (Stp.refl st) _ (by rw [h3.length]; exact .int _)⟩
  · exact p.elim
theorem de_ownIx (i : Nat) (hb : DE X W e m) (hs : PlainIx e := by exact fun _ _ => rfl) (hN : X.N[i]? = some y := by rfl) (hv : Vis X.env.scope y := by first | exact Or.inl rfl | exact Or.inr (Or.inl rfl) | exact Or.inr (Or.inr rfl)) (hd : (y == ("__debug__" : Str)) = false := by decide) (hcd : (y == ("__classdict__" : Str)) = false := by decide) :
    DE X W (.Subscript (.Name y p1) e pos) (mOwnIx i m) := by
  refine PEimp (pe_ix ix_seq (pe_var hN hv hd hcd) hb hs) ?_
  rintro σ H Q ⟨G, ρ, S, st, p⟩
  unfold mOwnIx at p
  split at p
  · rename_i e0
    obtain ⟨q, vs, h1, h2, h3, _⟩ := own_at st e0
    refine ⟨_, h1, G, ρ, S, st, (PostO.bind p).imp fun d ρ1 G1 H1 S1 _ ⟨t1, p1⟩ v r => ?_⟩
    cases d with
    | int k =>
      have p1 : PostO X.K X.mg W G1 H1 S1 σ ρ1 (match ρ1[i]? with | some (.lst _ xs) => (match atI xs k with | some x => .ok x ρ1 | none => .bad) | _ => .bad) _ := p1
      split at p1
      · rename_i e1
        obtain ⟨q', vs', g1, g2, g3, _⟩ := own_at t1.st e1
        rw [h1] at g1; cases g1
        cases r
        split at p1
        · rename_i x e2
          obtain ⟨v, a1, a2⟩ := atI_rep g3 e2
          exact .inl ⟨_, _, k, v, rfl, rfl, .inl (.inl g2), a1, p1 _ _ _ (Stp.refl t1.st) _ a2⟩
        · exact p1.elim
      · exact p1.elim
    | _ => exact p1.elim
  · exact p.elim
theorem de_ownPop (i : Nat) (hb : DE X W e m) (hN : X.N[i]? = some y := by rfl) (hv : Vis X.env.scope y := by first | exact Or.inl rfl | exact Or.inr (Or.inl rfl) | exact Or.inr (Or.inr rfl)) (hd : (y == ("__debug__" : Str)) = false := by decide) (hcd : (y == ("__classdict__" : Str)) = false := by decide)
    (hbase : attributeBase (.Name y p1) "pop" X.env (eval (.Name y p1) X.env) = eval (.Name y p1) X.env := by rfl)
    (hfew : ((backTo cpos (starEach [e] X.env)).all (fun x => !x.1) && (backToKw cpos (keywordEach [] X.env)).all (fun x => x.1.isSome)
      && decide ([e].length + ([] : List Keyword).length + (if ([] : List Keyword).isEmpty then 0 else 1) < 30)) = true := by rfl)
    (hline : (apos.endLine == cpos.line) = true := by rfl) (h1 : starEach [e] X.env = (false, eval e X.env) :: starEach [] X.env := by rfl) (hplain : (backTo cpos (starEach [] X.env)).any (·.1) = false := by rfl) :
    DE X W (.Call (.Attribute (.Name y p1) "pop" apos) [e] [] cpos) (mOwnPop i m) := by
  refine PEimp (pe_bm PySem.F.plainAttrs_list PySem.F.slot_list_pop PySem.F.type_list_pop mt_popAt (pe_var hN hv hd hcd) (pa_cons hb pa_nil h1) hbase hfew hline h1 hplain) ?_
  rintro σ H Q ⟨G, ρ, S, st, p⟩
  unfold mOwnPop at p
  split at p
  · rename_i e0
    obtain ⟨q, vs, h1, h2, h3, _⟩ := own_at st e0
    refine ⟨_, h1, .inl ⟨rfl, _, .inl (.inl h2)⟩, G, ρ, S, st, (PostO.bind p).imp fun d ρ1 G1 H1 S1 _ ⟨t1, p1⟩ v r => ?_⟩
    cases d with
    | int k =>
      have p1 : PostO X.K X.mg W G1 H1 S1 σ ρ1 (match ρ1[i]? with
        | some (.lst io xs) => if decide (-(2 ^ 63) ≤ k) && decide (k < 2 ^ 63) then (match seqIndex? k xs.length with | some j => (match xs[j]? with | some x => .ok x (ρ1.set i (.lst io (xs.eraseIdx j))) | none => .bad) | none => .bad) else .bad
        | _ => .bad) _ := p1
      split at p1
      · rename_i e1
        obtain ⟨q', vs', g1, g2, g3, g4⟩ := own_at t1.st e1
        rw [h1] at g1; cases g1
        cases r
        split at p1
        · rename_i hk
          simp only [Bool.and_eq_true, decide_eq_true_eq] at hk
          split at p1
          · rename_i j ej
            split at p1
            · rename_i x ex
              obtain ⟨v, a1, a2⟩ := g3.get ex
              refine ⟨_, _, k, j, v, rfl, rfl, g2, hk.1, hk.2, by rw [← g3.length]; exact ej, a1, ?_⟩
              exact p1 _ _ _ (g4 _ _ (g3.erase j)) _ a2
            · exact p1.elim
          · exact p1.elim
        · exact p1.elim
      · exact p1.elim
    | _ => exact p1.elim
  · exact p.elim
end
end FW

set_option Elab.async false
set_option linter.all false
set_option maxRecDepth 100000
set_option maxHeartbeats 400000
/-! FW40: a lambda handed to a def that hands it on to a def that catches: its first statement keeps what was caught. -/
namespace FW
section
open PySem PySem.Spec L2 LamX
open PyProof.Rows (envOfC)
variable {X : Cx} {σ : L2.St}
/-- a lambda's object as its maker left it: at f, known to nobody, no frame -/
structure LamAt (X : Cx) (params : Arguments) (body : Expr) (scope : Scope) (pm ctv : Value) (f c' : Addr) (H : Hp) (s : Shared) : Prop where
  obj : s.heap.get? f = some (PySem.W.kla_obj "<lambda>" (X.env.qual ++ "<lambda>") params body scope (cloFrom X.env.cells scope.names []) pm c' ctv)
  new : H f = none
  off : f ∉ frs X.stack
/-- it takes no arguments -/
abbrev NoArgs (X : Cx) (params : Arguments) (body : Expr) (scope : Scope) (pm ctv : Value) (c' : Addr) : Prop :=
  bindArgs (PySem.W.kla_fn "<lambda>" (X.env.qual ++ "<lambda>") params body scope (cloFrom X.env.cells scope.names []) pm (.ref c') ctv) ⟨[], []⟩ = pure []
section
variable {pins : List (Addr × Obj)} {H J : Hp} {s t : Shared} {params : Arguments} {body : Expr} {scope : Scope} {pm ctv : Value} {f c' : Addr} {k : Nat} {E : XK} {tb : TE} {Q : VK} {A : Around} {st : List PySem.Env}
/-- the lambda called at any later state t, under any frames st -/
theorem lam_go (I : Inv X pins σ H s) (L : LamS X.env.scope scope) (at_ : LamAt X params body scope pm ctv f c' H s) (na : NoArgs X params body scope pm ctv c') (e0 : Env0 X.prog X.w X.K X.mg X.base A st t J) (un : Un (frs X.stack) [] H J s.heap t.heap) (room : Room (k + 1) A)
    (code : J c' = some (CodeO c' (X.env.qual ++ "<lambda>"))) (run : ∀ (A : Around) (outer : List PySem.Env) (s : Shared) (H : Hp), Room k (A.deeper (lamEnv X scope s.heap.objs.size f c')) → PE (lamCx X A outer s H E scope f c') body tb) (want : tb σ J Q) :
    codeAny (model X.prog X.w) A (.call (.ref f) ⟨[], []⟩) (CR (L2.CX X.prog X.w) st X.prog X.w J t Q E) t := by
  have lim : t.heap.NoLimit := e0.mod.nolimit.keeps fun b o e => (e0.bs b o e).1
  have here := un.keep f _ at_.obj at_.new at_.off List.not_mem_nil
  obtain ⟨⟨oc, us, tok, c1, c2, c3⟩, -, -⟩ := e0.hok c' _ code
  apply PySem.W.kla_callFunE room.depth here rfl L.co L.gen rfl ⟨c', oc, us, tok, rfl, c1, c2, c3⟩
  rw [show bindArgs _ _ = _ from na]
  apply wpAny_pure
  apply wpAny_newFunctionEnv (fun y hy => (L.own y hy).2) (fun _ z => (List.not_mem_nil z).elim) _ L.kind
  intro h2 ns2 same
  have old : ∀ b o, t.heap.get? b = some o → h2.get? b = some o := fun b o e => same.extBut b o (Nat.ne_of_lt (Heap.lt_size e)) (Heap.get?_push_of_some _ e)
  refine ⟨lim.fresh _ same, ?_⟩
  apply PySem.W.kla_codeExpr
  have start := lam_start2 (E := E) (tk := t.toks + ([] : List (Str × Value)).length) (A := A) (f := f) (c' := c') I L e0 room.hd un ns2 old
  apply wpAny_mono ((run A st t J (room.deeper _)).run [] _ σ J Q start want)
  · rintro u t2 ⟨v, J2, I2, rv, q⟩
    exact ⟨v, J2, I2.os, I2.bare, I2.base, I2.hok, rv, q⟩
  · exact fun _ _ x => x
/-- x() deep below: the state at the call is one that the maker's state leads to -/
theorem pe_actG {Cg : CXT} {Eg : XK} {N : List Str} {q : Str} {sc : Scope} {g : Addr} {cd : Value} {i : Nat} {x : Str} {pn : List (Addr × Obj)} {xe : Value → Shared → Prop} {W : WX} {p1 p2 : Pos} {t0 : Shared} {J0 : Hp}
    (I : Inv X pins σ H s) (L : LamS X.env.scope scope) (at_ : LamAt X params body scope pm ctv f c' H s) (na : NoArgs X params body scope pm ctv c')
    (thru : ∀ pinsZ sZ σZ HZ, Inv ((cxOf Cg X.prog X.w X.K X.mg X.base N q sc g cd A st t0 J0 Eg).tr pn xe) pinsZ σZ HZ sZ → Un (frs X.stack) [] H HZ s.heap sZ.heap)
    (tk : Takes ((cxOf Cg X.prog X.w X.K X.mg X.base N q sc g cd A st t0 J0 Eg).tr pn xe) W) (le : ∀ c d σ' H', E c d H' → W c d σ' H') (room : Room (k + 1) (A.deeper (envOfC q sc t0.heap.objs.size g cd)))
    (run : ∀ (A : Around) (outer : List PySem.Env) (s : Shared) (H : Hp), Room k (A.deeper (lamEnv X scope s.heap.objs.size f c')) → PE (lamCx X A outer s H E scope f c') body tb)
    (hN : N[i]? = some x) (vis : Vis sc x) (n1 : (x == ("__debug__" : Str)) = false) (n2 : (x == ("__classdict__" : Str)) = false) :
    PE ((cxOf Cg X.prog X.w X.K X.mg X.base N q sc g cd A st t0 J0 Eg).tr pn xe) (.Call (.Name x p1) [] [] p2) (fun σZ HZ Q => σZ[i]? = some (some (.ref f)) ∧ HZ c' = some (CodeO c' (X.env.qual ++ "<lambda>")) ∧ tb σ HZ Q) := by
  constructor
  rintro pz sz σz Hz Q0 Iz ⟨slot, code, want⟩
  have name := (pe_var (pos := p1) (i := i) hN vis n1 n2).run pz sz σz Hz (fun v J => v = .ref f ∧ J = Hz) Iz ⟨_, slot, rfl, rfl⟩
  apply wpAny_Call_Name_kw (thn name ?_)
  rintro _ t ⟨v, J, It, rv, rfl, rfl⟩
  cases (show _ = Value.ref f from rv)
  have un := thru pz t σz J It
  apply PySem.W.callWith_F0 ⟨_, _, _, _, un.keep f _ at_.obj at_.new at_.off List.not_mem_nil⟩
  apply wpAny_call
  apply codeAny_mono (lam_go I L at_ na It.env0 un room code run want)
  intro r t2 done
  match r, done with
  | .ok (.ret _), done => exact It.after done
  | .error e, done => exact passes_call tk le pz σz J t e t2 It done
  | .ok .next, done => exact done.elim
  | .ok .brk, done => exact done.elim
  | .ok .cont, done => exact done.elim
end
section
variable {pins : List (Addr × Obj)} {H HZ : Hp} {s s1 : Shared}
/-- from the state in a callee, and the caller's at the call: what the caller's entry leads to -/
theorem un_thru {X2 : Cx} {CXg : CXT} {Eg : XK} {Ng : List Str} {qg : Str} {sg : Scope} {g : Addr} {cdg : Value} {pn : List (Addr × Obj)} {xe : Value → Shared → Prop} {s4 : Shared} {H4 : Hp} {pins2 : List (Addr × Obj)} {σ2 : L2.St} (I2 : Inv X2 pins2 σ2 H4 s4) (e : X2.ex = [])
    {pinsZ : List (Addr × Obj)} {sZ : Shared} {σZ : L2.St} {HZ : Hp} (IZ : Inv ((cxOf CXg X2.prog X2.w X2.K X2.mg X2.base Ng qg sg g cdg X2.A X2.stack s4 H4 Eg).tr pn xe) pinsZ σZ HZ sZ) : Un X2.fs [] X2.H_0 HZ X2.s_0.heap sZ.heap := by
  have c : CE X2.stack X2.prog X2.w H4 s4 (fun _ H' => H' = HZ) .none sZ := ⟨.non, HZ, IZ.os, IZ.bare, IZ.base, IZ.hok, rfl, rfl⟩
  obtain ⟨v, H', I', _, rfl⟩ := I2.after c
  exact e ▸ I'.base
/-- g(a), a the lambda that was handed in -/
theorem pe_relay {f c' : Addr} {pm ctv : Value} {params : Arguments} {body : Expr} {scope : Scope} {k i : Nat} {TT : (XK → Hp → VK → Prop) → Hp → VK → Prop} {t : XK → TE}
    {CX2 : CXT} {E2 : XK} {N2 : List Str} {q2 : Str} {sc2 : Scope} {g2 : Addr} {cd2 : Value} {s3 : Shared} {H3 : Hp} {x1 a1 a2 : Str} {g1 : Addr} {pg : Arguments} {bg : List Stmt} {sg : Scope} {fd : FuncData} {Ng : List Str} {pos p1 p2 : Pos}
    (I : Inv X pins σ H3 s3) (L : LamS X.env.scope scope) (at_ : LamAt X params body scope pm ctv f c' H3 s3) (na : NoArgs X params body scope pm ctv c')
    (F : FunD X.K x1 x1 pg bg sg [] [] g1 fd) (hm : X.mg x1 = some (.ref g1)) (hb : L2.Binds X.K fd [a1] []) (Sg : FnScope Ng [a1] sg) (hr : Room (k + 2) (X.A.deeper (envOfC q2 sc2 s3.heap.objs.size g2 cd2)))
    (hG : ∀ cdv, LamX.GivesTo (cxOf CX2 X.prog X.w X.K X.mg X.base N2 q2 sc2 g2 cd2 X.A X.stack s3 H3 E2) Ng x1 sg g1 cdv bg a1 (X.env.qual ++ "<lambda>") TT)
    (hbody : ∀ (A : Around) (outer : List PySem.Env) (s : Shared) (H : Hp) (E : XK), Room k (A.deeper (lamEnv X scope s.heap.objs.size f c')) → PE (lamCx X A outer s H E scope f c') body (t E))
    (hNg : Ng[0]? = some a1) (hva : Vis sg a1) (hN2 : N2[i]? = some a2) (hv2 : Vis sc2 a2) (hgl : Gl (cxOf CX2 X.prog X.w X.K X.mg X.base N2 q2 sc2 g2 cd2 X.A X.stack s3 H3 E2) x1)
    (hdb : (x1 == ("__debug__" : Str)) = false) (hd : (a1 == ("__debug__" : Str)) = false) (hcd : (a1 == ("__classdict__" : Str)) = false) (hd2 : (a2 == ("__debug__" : Str)) = false) (hcd2 : (a2 == ("__classdict__" : Str)) = false) :
    PE (cxOf CX2 X.prog X.w X.K X.mg X.base N2 q2 sc2 g2 cd2 X.A X.stack s3 H3 E2) (.Call (.Name x1 p1) [.Name a2 p2] [] pos)
      (fun σ2 H4 Q => σ2[i]? = some (some (.ref f)) ∧ H4 c' = some (CodeO c' (X.env.qual ++ "<lambda>")) ∧ TT (fun E H' Q' => t E σ H' Q') H4 Q) := by
  obtain ⟨oc, od, dV, kV, doc, pm1, an, cdv, ct, osl, rfl, lk, hcg, _, _⟩ := F.ex
  refine ⟨fun pins2 s2 σ2 H4 Q I2 h => ?_⟩
  obtain ⟨hs, hc, ht⟩ := h
  refine wpAny_Call_Name_kw (ld_glob I2 hgl hm ?_ hdb)
  refine PySem.W.callWith_K (h₀ := X.base) I2.ok.mod.kin F.kp ?_ (by rfl) (by rfl)
  refine Calls.spliced_cons (thn ((pe_var (pos := p2) (i := i) hN2 hv2 hd2 hcd2).run pins2 s2 σ2 H4 (fun v H1 => v = .ref f ∧ H1 = H4) I2 ⟨.ref f, hs, rfl, rfl⟩) fun u s4 ⟨v, H1, I4, r1, q1⟩ => ?_)
  obtain ⟨ev, eH⟩ := q1
  subst ev
  rw [eH] at I4
  obtain rfl : u = Value.ref f := r1
  refine Calls.spliced_nil ⟨I4.kIn, ?_⟩
  have rc : codeAny (model X.prog X.w) (X.A.deeper (envOfC q2 sc2 s3.heap.objs.size g2 cd2)) (.call (.ref g1) ⟨[.ref f], []⟩) (CR C8.CX0 (envOfC q2 sc2 s3.heap.objs.size g2 cd2 :: X.stack) X.prog X.w H4 s4 Q C8.E0) s4 := by
    refine run_ofS (N := Ng) (ps := [a1]) (us := [.ref f]) (vs := [.ref f]) lk hcg Sg hr I4.env0 (hb s4 [.ref f] I4.kIn rfl) (.cons rfl .nil) rfl fun hr' => ?_
    have act : ∀ (W : WX) (pn : List (Addr × Obj)) (xe : Value → Shared → Prop) (E : XK) (p1 p2 : Pos), Takes ((cxOf C8.CX0 X.prog X.w X.K X.mg X.base Ng x1 sg g1 cdv (X.A.deeper (envOfC q2 sc2 s3.heap.objs.size g2 cd2)) (envOfC q2 sc2 s3.heap.objs.size g2 cd2 :: X.stack) s4 H4 C8.E0).tr pn xe) W → (∀ cls d σ' H', E cls d H' → W cls d σ' H') →
      PE ((cxOf C8.CX0 X.prog X.w X.K X.mg X.base Ng x1 sg g1 cdv (X.A.deeper (envOfC q2 sc2 s3.heap.objs.size g2 cd2)) (envOfC q2 sc2 s3.heap.objs.size g2 cd2 :: X.stack) s4 H4 C8.E0).tr pn xe) (.Call (.Name a1 p1) [] [] p2) (fun σZ HZ Q => σZ[0]? = some (some (.ref f)) ∧ HZ c' = some (CodeO c' (X.env.qual ++ "<lambda>")) ∧ t E σ HZ Q) := fun W pn xe E p1 p2 tk hW => by
      refine pe_actG (i := 0) (A := X.A.deeper (envOfC q2 sc2 s3.heap.objs.size g2 cd2)) (st := envOfC q2 sc2 s3.heap.objs.size g2 cd2 :: X.stack) (t0 := s4) (J0 := H4) I L at_ na (fun pinsZ sZ σZ HZ IZ => ?_) tk hW hr' (fun A outer s H hr2 => hbody A outer s H E hr2) hNg hva hd hcd
      exact un_thru (X2 := cxOf CX2 X.prog X.w X.K X.mg X.base N2 q2 sc2 g2 cd2 X.A X.stack s3 H3 E2) I4 rfl IZ
    obtain ⟨t', ht', hq'⟩ := hG cdv f c' s4 H4 Q (fun E H' Q' => t E σ H' Q') act hc ht
    exact ⟨t', ht'.nox, hq'⟩
  refine wpAny_call (codeAny_mono rc fun r s5 hq => ?_)
  cases r with
  | error e => exact (show False from hq).elim
  | ok fl =>
    cases fl with
    | ret u => exact I4.after hq
    | next => exact False.elim hq
    | brk => exact False.elim hq
    | cont => exact False.elim hq
end
end
end FW

set_option Elab.async false
set_option linter.all false
set_option maxRecDepth 100000
set_option maxHeartbeats 400000
/-! FW41: g(lambda: e, a, ..), g's first statement y = h(its first parameter), h a def that catches. -/
namespace FW
open PySem PySem.Spec L2
open PyProof.Rows (envOfC)
variable [Tc]
section
variable {K : PySem.W.Frag} {mg : Str → Option Value} {W : WX} {G H G' H' : Hp} {S S' : List Addr} {σ σc σ' : Sg} {ρ ρc ρc' : Env}
theorem SlOk.plain {s : Sl} {o : Option V} {T : List Addr} (x : SlOk K mg G H s o T) : ∀ a ∈ T, ∀ φ, H a ≠ some (.ext φ) := by
  cases x with
  | un o => simp
  | dat h => simp
  | lst h l => intro a ha φ e; simp at ha; subst ha; rw [h] at e; cases e
  | dct h l => intro a ha φ e; simp at ha; subst ha; rw [h] at e; cases e
  | drw h h2 h3 =>
    intro a ha φ e
    simp at ha
    rcases ha with rfl | rfl
    · rw [h] at e; cases e
    · rw [h2] at e; cases e
theorem Sls.plain (x : Sls K mg G H ρ σ S) : ∀ a ∈ S, ∀ φ, H a ≠ some (.ext φ) := by
  induction x with
  | nil => simp
  | cons a b ih =>
    intro c hc
    rcases List.mem_append.mp hc with hc | hc
    · exact a.plain c hc
    · exact ih c hc
/-- what is neither a table nor an own thing stays -/
theorem Stp.ext (t : Stp K mg G H S σ ρ G' H' S' σ' ρc') (st : StOk K mg G H σ ρ S) {c : Addr} {q : Str} (h : H c = some (LamX.CodeO c q)) : H' c = some (LamX.CodeO c q) := by
  cases e : G c with
  | some o =>
    have := st.sub c o e
    rw [h] at this; cases this
    exact t.st.sub c _ (t.sub c _ e)
  | none => exact (t.keep c _ h (fun ps => LamX.codeO_ne ps) e fun z => st.sls.plain c z _ h).2
theorem call_stpS (st : StOk K mg G H σ ρ S) (t : Stp K mg G H [] σc ρc G' H' S' σ' ρc') : Stp K mg G H S σ ρ G' H' S σ ρ :=
  have kp : ∀ {a : Addr}, a ∈ S → G' a = none ∧ H' a = H a := fun {a} ha => by
    obtain ⟨o, e, n⟩ := st.sls.tracked a ha
    rw [e]
    exact t.keep a o e n (st.out a ha) (by simp)
  ⟨t.sub, fun a o h nt n hs => t.keep a o h nt n (by simp), fun a h => .inl h, t.trk, fun i s h4 h5 => ⟨rfl, s, h4, h5⟩,
    ⟨t.st.sub, st.sls.mono t.sub fun a ha => (kp ha).2, st.nd, fun a ha => (kp ha).1, t.st.gno, t.st.tab⟩⟩
end
section
variable {X : Cx} {pins : List (Addr × Obj)} {σ : L2.St} {H : Hp} {s : Shared}
/-- a new function is pinned -/
theorem inv_pinF (I : Inv X pins σ H s) {f : Addr} {o : Obj} (hf : s.heap.get? f = some o) (hfn : H f = none) (hfr : f ∉ frs X.stack) (n1 : ∀ es ep, o.data ≠ .dict es ep) (n2 : ∀ v, o.data ≠ .cell v) : Inv X ((f, o) :: pins) σ H s := by
  refine ⟨I.ok, I.os, I.bare, I.base, I.loc, I.cell, I.free, I.freeC, fun p hp => ?_, I.hok, I.len⟩
  simp only [List.mem_append, List.mem_cons] at hp
  rcases hp with hp | rfl | hp
  · exact I.pin p (by simp [hp])
  · refine ⟨hf, hfn, fun z => ?_, fun z => hfr ?_, n2⟩
    · obtain ⟨m, ⟨o', es, ep, ho', hd', _⟩, _⟩ := I.loc
      rw [← z, hf] at ho'; cases ho'
      exact n1 _ _ hd'
    · rcases I.ok.stk with e | ⟨e, hF⟩
      · rw [e]; exact z
      · rw [e]
        unfold frs
        rw [List.filterMap_cons, hF]
        exact List.mem_cons_of_mem _ z
  · exact I.pin p (by simp [hp])
theorem inv_unpinF {p : Addr × Obj} (I : Inv X (p :: pins) σ H s) : Inv X pins σ H s ∧ s.heap.get? p.1 = some p.2 ∧ H p.1 = none :=
  ⟨⟨I.ok, I.os, I.bare, I.base, I.loc, I.cell, I.free, I.freeC, fun q hq => I.pin q (by
    simp only [List.mem_append, List.mem_cons] at hq ⊢
    rcases hq with h | h <;> simp [h]), I.hok, I.len⟩, (I.pin p (by simp)).1, (I.pin p (by simp)).2.1⟩
end
def mRelay (n kn j : Nat) (mb : MS) (mc : M D) (ma : M (List D)) : M D := mBind ma fun ds => mBind mc fun c ρ => if ds.length + 1 = n then (match mb (((Sl.un :: dats ds) ++ List.replicate kn Sl.un).set j (.dat c)) with
  | .rt d _ => .ok d ρ | .nx _ => .ok .non ρ | .err nm fs _ => .err nm fs ρ | _ => .bad) else .bad
section
variable {X : Cx} {W : WX} {m : M D} {ma : M (List D)} {mr : MS}
theorem de_lamrelay (j kn : Nat) {x2 a2 x1 a1 y : Str} {g1 g2 CS c P : Addr} {k : Nat} {pg1 pg2 : Arguments} {bg1 bg2 rest : List Stmt} {sg1 sg2 : Scope} {fd1 fd2 : FuncData} {N1 N2 ns ps2 : List Str} {params : Arguments} {body : Expr} {scope : Scope} {p lpos pos q1 q2 p1 p2 p3 : Pos} {es : List Expr}
    (F2 : FunD X.K x2 x2 pg2 bg2 sg2 [] [] g2 fd2) (hm2 : X.mg x2 = some (.ref g2)) (hb2 : L2.Binds X.K fd2 (a2 :: ps2) []) (Sg2 : FnScope N2 (a2 :: ps2) sg2) (hbg : bg2 = .Assign [.Name y q1] (.Call (.Name x1 p1) [.Name a2 p2] [] p3) q2 :: rest)
    (F1 : FunD X.K x1 x1 pg1 bg1 sg1 [] [] g1 fd1) (hm1 : X.mg x1 = some (.ref g1)) (hb1 : L2.Binds X.K fd1 [a1] []) (Sg1 : FnScope N1 [a1] sg1)
    (hG : ∀ X2 : Cx, X2.K = X.K → X2.mg = X.mg → ∀ cdv, LamX.GivesTo X2 N1 x1 sg1 g1 cdv bg1 a1 (X.env.qual ++ "<lambda>") (TTc X.K CS)) (hns : ∀ n ∈ ns, ∃ C, X.mg n = some (.ref C) ∧ PySem.W.exmOne X.K (.ref C) (.ref CS) = some true)
    (TB : LamX.TabB X.base X.mg c P) (hcode : X.env.code = .ref c) (hmT : (P, X.env.qual ++ "<lambda>") ∈ Tc.T) (hu : ∀ p ∈ Tc.T, p.1 = P → p.2 = X.env.qual ++ "<lambda>") (hr : Room (k + 3) X.A) (tk : Takes X W)
    (hbody : ∀ (A : Around) (outer : List PySem.Env) (s : Shared) (H : Hp) (E : XK) (f c' : Addr), Room k (A.deeper (LamX.lamEnv X scope s.heap.objs.size f c')) → DE (LamX.lamCx X A outer s H E scope f c') (WEx E) body m)
    (ha : DA X W es ma)
    (hrest : ∀ (cd : Value) (A : Around) (outer : List PySem.Env) (s : Shared) (H : Hp) (E : XK), Room (k + 2) (A.deeper (envOfC x2 sg2 s.heap.objs.size g2 cd)) → DSs (cxOf (L2.CX X.prog X.w) X.prog X.w X.K X.mg X.base N2 x2 sg2 g2 cd A outer s H E) (WEx E) rest mr)
    (hk : N2.length = ps2.length + 1 + kn := by rfl) (hj : N2[j]? = some y := by rfl) (hN2 : N2[0]? = some a2 := by rfl) (hyl : sg2.names.lookup y = some .local := by rfl) (hg1 : sg2.names.lookup x1 = some .globalImplicit := by rfl)
    (hNg : N1[0]? = some a1 := by rfl) (hva : Vis sg1 a1 := by first | exact Or.inl rfl | exact Or.inr (Or.inl rfl) | exact Or.inr (Or.inr rfl)) (hv2 : Vis sg2 a2 := by first | exact Or.inl rfl | exact Or.inr (Or.inl rfl) | exact Or.inr (Or.inr rfl))
    (L : LamX.LamS X.env.scope scope := by exact LamX.lamS_by (by decide +kernel)) (hdef : defaultsOf params X.env = ([], []) := by rfl)
    (hbind : ∀ (q : Str) (cl : List (Str × Addr)) (pm cv ctv : Value), bindArgs (PySem.W.kla_fn "<lambda>" q params body scope cl pm cv ctv) ⟨[], []⟩ = pure [] := by intros; rfl) (hg : Gl X x2 := by rfl)
    (hdb : (x2 == ("__debug__" : Str)) = false := by decide) (hdb1 : (x1 == ("__debug__" : Str)) = false := by decide) (hd : (a1 == ("__debug__" : Str)) = false := by decide) (hcd : (a1 == ("__classdict__" : Str)) = false := by decide) (hd2 : (a2 == ("__debug__" : Str)) = false := by decide) (hcd2 : (a2 == ("__classdict__" : Str)) = false := by decide)
    (he : starEach (.Lambda params body scope lpos :: es) X.env = (false, eval (.Lambda params body scope lpos) X.env) :: starEach es X.env := by rfl) (hpl : (backTo pos (starEach es X.env)).any (·.1) = false := by rfl) :
    DE X W (.Call (.Name x2 p) (.Lambda params body scope lpos :: es) [] pos) (mRelay (ps2.length + 1) kn j mr (mCaught ns m) ma) := by
  subst hbg
  obtain ⟨oc, od, dV, kV, doc, pm, an, cdv, ct, osl, rfl, lk, hcg, _, _⟩ := F2.ex
  refine ⟨fun pins s σ H Q I h => ?_⟩
  obtain ⟨G, ρ, S, st, p⟩ := h
  refine wpAny_Call_Name_kw (ld_glob I hg hm2 ?_ hdb)
  refine PySem.W.callWith_K (h₀ := X.base) I.ok.mod.kin F2.kp ?_ he hpl
  rw [he]
  show wpAny _ _ (spliced ((false, eval (.Lambda params body scope lpos) X.env) :: backTo pos (starEach es X.env))) _ _ s
  refine Calls.spliced_cons (LamX.lam_make2 I TB hcode hmT hu st.tab hdef (L.has I.ok) fun f c' pm' ctv H1 s' I1 eN T1 hf hfn hfr hco => ?_)
  have t0 := extN_stp st eN T1
  have Ip := inv_pinF I1 hf hfn hfr (fun _ _ z => nomatch z) (fun _ z => nomatch z)
  refine thn (ha.run pos _ s' σ H1 (fun vs H3 => ∃ G1 ρ1 S1 ds, Stp X.K X.mg G H S σ ρ G1 H3 S1 σ ρ1 ∧ H3 c' = some (LamX.CodeO c' (X.env.qual ++ "<lambda>")) ∧ RepL X.K X.mg G1 ds vs ∧
      PostO X.K X.mg W G1 H3 S1 σ ρ1 ((mBind (mCaught ns m) fun c ρ => if ds.length + 1 = ps2.length + 1 then (match mr (((Sl.un :: dats ds) ++ List.replicate kn Sl.un).set j (.dat c)) with
        | .rt d _ => .ok d ρ | .nx _ => .ok .non ρ | .err nm fs _ => .err nm fs ρ | _ => .bad) else .bad) ρ1) fun d _ G' H' _ => ∀ v, Rep X.K X.mg G' d v → Q v H') Ip ⟨G, ρ, S, t0.st, ?_⟩) fun us s3 hh => ?_
  · refine (PostO.from t0 (PostO.bind p)).imp fun ds ρ1 G1 H3 S1 t1 ⟨t2, p2⟩ vs rs => ⟨G1, ρ1, S1, ds, t2, t1.ext t0.st hco, rs, p2⟩
  obtain ⟨vs, H3, I3p, r, G1, ρ1, S1, ds, t1, hco3, rs, p⟩ := hh
  obtain ⟨I3, hf3, hfn3⟩ := inv_unpinF I3p
  refine ⟨I3.kIn, ?_⟩
  have hlen : ds.length = vs.length := rs.length
  by_cases hl : ds.length + 1 = ps2.length + 1
  rotate_left
  · exfalso
    unfold mBind at p
    cases e : mCaught ns m ρ1 with
    | ok c0 ρ2 => rw [e] at p; simp only [Out.then, if_neg hl] at p; exact p
    | err n fs ρ2 =>
      unfold mCaught at e
      split at e
      · cases e
      · split at e <;> cases e
      · cases e
    | bad => rw [e] at p; exact p
  have lj : j < N2.length := (List.getElem?_eq_some_iff.mp hj).1
  have e0 : L2.start N2 (.ref f :: vs) = (V.ref f :: vs).map some ++ List.replicate kn none := by
    unfold L2.start
    rw [hk]
    congr 2
    simp only [List.length_cons]
    omega
  have e1 : ∀ d : D, ∃ s0 : Sl, (Sl.un :: dats ds ++ List.replicate kn Sl.un)[j]? = some s0 := fun _ => by
    refine ⟨_, List.getElem?_eq_getElem (h := ?_)⟩
    have : (dats ds).length = ds.length := List.length_map ..
    simp only [List.cons_append, List.length_cons, List.length_append, List.length_replicate, this]
    omega
  -- behind the first statement
  have post : ∀ (G2 H4 : Hp) (S2 : List Addr) (ρ2 : Env) (d : D) (v : V) (Q' : VK), Stp X.K X.mg G1 H3 S1 σ ρ1 G2 H4 S2 σ ρ2 → Rep X.K X.mg G2 d v →
      PostO X.K X.mg W G2 H4 S2 σ ρ2 (match mr (((Sl.un :: dats ds) ++ List.replicate kn Sl.un).set j (.dat d)) with
        | .rt d _ => .ok d ρ2 | .nx _ => .ok .non ρ2 | .err nm fs _ => .err nm fs ρ2 | _ => .bad) (fun d _ G' H' _ => ∀ v, Rep X.K X.mg G' d v → Q v H') →
      rdS X.K X.mg (WEx (WE W σ)) mr { nx := fun _ H' => Q .non H', rt := Q } ((L2.start N2 (.ref f :: vs)).set j (some v)) H4 := fun G2 H4 S2 ρ2 d v Q' t2 rv p2 => by
    have sls0 : Sls X.K X.mg G2 H4 (Sl.un :: dats ds ++ List.replicate kn Sl.un) ((V.ref f :: vs).map some ++ List.replicate kn none) [] := Sls.pad (Sls.cons (T := []) (.un _) (sls_dats (rs.sub t2.sub))) kn
    obtain ⟨s0, es0⟩ := e1 d
    obtain ⟨ov, T1, T, T2, h1, h2, h3, h4⟩ := sls0.at es0
    have : T1 = [] ∧ T = [] ∧ T2 = [] := by simpa using h2.symm
    obtain ⟨rfl, rfl, rfl⟩ := this
    have sls1 := h4 G2 H4 (.dat d) (some v) [] (Sub.refl _) (fun _ _ => rfl) (.dat rv)
    rw [← e0] at sls1
    refine ⟨G2, _, [], ⟨t2.st.sub, sls1, List.nodup_nil, fun a ha => absurd ha (by simp), t2.st.gno, t2.st.tab⟩, ?_⟩
    show PostS X.K X.mg (WEx (WE W σ)) G2 H4 [] _ _ (mr (((Sl.un :: dats ds) ++ List.replicate kn Sl.un).set j (.dat d))) _
    cases q : mr (((Sl.un :: dats ds) ++ List.replicate kn Sl.un).set j (.dat d)) with
    | nx ρ' =>
      rw [q] at p2
      exact fun G' H' S' σ' t => p2 _ _ _ (call_stpS t2.st t) _ .non
    | rt d ρ' =>
      rw [q] at p2
      exact fun G' H' S' σ' v t r => p2 _ _ _ (call_stpS t2.st t) _ r
    | bk ρ' => rw [q] at p2; exact p2.elim
    | ct ρ' => rw [q] at p2; exact p2.elim
    | err n fs ρ' =>
      rw [q] at p2
      exact fun G' H' S' σ' c dd t er => p2 _ _ _ c dd (call_stpS t2.st t) er
    | bad => rw [q] at p2; exact p2.elim
  have rc : codeAny (model X.prog X.w) X.A (.call (.ref g2) ⟨.ref f :: us, []⟩) (CR (L2.CX X.prog X.w) X.stack X.prog X.w H3 s3 Q (WE W σ)) s3 := by
    refine LamX.run_ofS (N := N2) (ps := a2 :: ps2) (us := .ref f :: us) (vs := .ref f :: vs) lk hcg Sg2 hr I3.env0 (by simpa using hb2 s3 (.ref f :: us) I3.kIn (by simp [← r.length, ← hlen]; omega)) (.cons rfl r) (by simp [← hlen]; omega) fun hr' => ?_
    refine ⟨_, pss_cons (ps_asg (pe_relay (i := 0) (t := fun E => rdE X.K X.mg (WEx E) m) I3 L ⟨hf3, hfn3, hfr⟩ (hbind _ _ _ _ _) F1 hm1 hb1 Sg1 hr' (fun cdv1 => hG (cxOf (L2.CX X.prog X.w) X.prog X.w X.K X.mg X.base N2 x2 sg2 g2 cdv X.A X.stack s3 H3 (WE W σ)) rfl rfl cdv1) (fun A outer s H E hr2 => hbody A outer s H E f c' hr2) hNg hva hN2 hv2 hg1 hdb1 hd hcd hd2 hcd2)
      (pg_name Sg2.nd hj (.inl hyl) (.inr hyl)) rfl rfl rfl) (hrest cdv X.A X.stack s3 H3 (WE W σ) hr'), ?_⟩
    refine ⟨?_, hco3, ?_⟩
    · rw [e0]; rfl
    · refine ⟨G1, ρ1, S1, t1.st, ?_⟩
      unfold mBind mCaught at p
      cases e : m ρ1 with
      | ok d ρ' =>
        rw [e] at p
        simp only [Out.then, if_pos hl] at p
        exact fun G' H' S' t v _ => post G' H' S' ρ' .non .non Q t .non (PostO.from t p)
      | err n fs ρ' =>
        rw [e] at p
        simp only at p
        split at p
        · rename_i hn
          simp only [Out.then, if_pos hl] at p
          intro G' H' S' cv dd t er
          obtain ⟨C, h1, rfl, h2⟩ := er
          obtain ⟨C', h3, h4⟩ := hns n (by simpa using hn)
          rw [h1] at h3; cases h3
          refine ⟨h4, fun ax nax => ?_⟩
          have al := Al.new (o := ExV (.ref C) dd ax) t.st.sub nax ntb_ext
          have t2 := t.trans (al.stp t.st)
          refine post _ _ _ ρ' (.exc n fs) (.ref ax) Q t2 ?_ (PostO.from t2 p)
          rcases h2 with ⟨rfl, rfl⟩ | ⟨d, ws, rfl, q1, q2, q3⟩
          · exact .exc0 h1 upd_same
          · exact .exc h1 upd_same (al.sub _ _ q1) q2 (q3.sub al.sub)
        · exact p.elim
      | bad => rw [e] at p; exact p.elim
  refine wpAny_call (codeAny_mono rc fun r s5 hq => ?_)
  cases r with
  | error e => exact passAt tk σ pins H3 s3 e s5 I3 hq
  | ok fl =>
    cases fl with
    | ret u => exact I3.after hq
    | next => exact False.elim hq
    | brk => exact False.elim hq
    | cont => exact False.elim hq
end
end FW

set_option Elab.async false
set_option linter.all false
set_option maxRecDepth 100000
set_option maxHeartbeats 400000
/-! FW42: repr of flat data; own things lent to a call whose answer is flat; a def with its code object by name. -/
namespace FW
open PySem PySem.Spec L2
open PyProof.Rows (envOfC)
variable [Tc]
def flatD : D → Bool | .non => true | .bl _ => true | .int _ => true | .str _ => true | _ => false
def gReprF : List D → Option D | [d] => if flatD d then gRepr [d] else none | _ => none
theorem c_reprF {X : Cx} : HasCall X (.builtin "repr") gReprF := by
  refine ⟨fun xs H Q => ∃ x p, xs = [x] ∧ Dp X.K H x p ∧ (∀ a, x ≠ .ref a) ∧ p.showable = true ∧ p.shown.length ≤ sizeLine ∧ Q (.str p.shown) H, fun pins s σ H xs us Q I r h => ?_, fun G H ds d xs Q s rs e q => ?_⟩
  · obtain ⟨x, p, rfl, hd, h0, h1, h4, q⟩ := h
    obtain ⟨u, rfl, ru⟩ := vals1 r
    cases hd with
    | non => cases (show u = Value.none from ru); exact PySem.P.repr_of_none ⟨.str _, H, I.tok _, ⟨_, rfl⟩, q⟩
    | bl b => cases (show u = Value.bool b from ru); exact PySem.P.repr_of_bool ⟨.str _, H, I.tok _, ⟨_, rfl⟩, by simpa [PyData.shown] using q⟩
    | int i =>
      obtain ⟨t, z⟩ := (show ∃ t, u = Value.int i t from ru)
      cases z
      exact PySem.P.repr_of_int (by simpa [PyData.showable] using h1) ⟨.str _, H, I.tok _, ⟨_, rfl⟩, q⟩
    | str z =>
      obtain ⟨t, z⟩ := (show ∃ t, u = Value.str z t from ru)
      cases z
      exact PySem.P.repr_of_str ⟨.str _, H, I.tok _, ⟨_, rfl⟩, q⟩ h4
    | lst ha hx => exact absurd rfl (h0 _)
    | tup ha hx => exact absurd rfl (h0 _)
  · cases rs with
    | nil => cases e
    | cons ra rb =>
      cases rb with
      | cons _ _ => cases e
      | nil =>
        simp only [gReprF] at e
        split at e
        · rename_i hf
          simp only [gRepr] at e
          split at e
          · rename_i p hp
            split at e
            · rename_i hh
              cases e
              simp only [Bool.and_eq_true, Bool.not_eq_true', decide_eq_true_eq] at hh
              obtain ⟨⟨⟨h1, h2⟩, h3⟩, h4⟩ := hh
              refine ⟨_, p, rfl, (ra.sub s).dp _ _ _ hp, fun a z => ?_, h1, h4, q _ _ _ (Al.refl s) (.str _)⟩
              cases ra <;> cases z <;> cases hf
            · cases e
          · cases e
        · cases e
/-! ### lent -/
inductive La where | v (i : Nat) | c (d : D)
def laD (ρ : Env) : La → Option D
  | .v i => (match ρ[i]? with | some (.dat d) => some d | some (.lst _ xs) => some (.lst xs) | some (.dct _ xs) => some (.dK xs) | _ => none)
  | .c d => some d
def laDs (ρ : Env) : List La → Option (List D)
  | [] => some []
  | a :: l => (match laD ρ a with | some d => (match laDs ρ l with | some ds => some (d :: ds) | none => none) | none => none)
def mCallL (n : Nat) (F : M D) (las : List La) : M D := fun ρ => match laDs ρ las with
  | some ds => if decide (ds.length = n) then (match F (dats ds) with | .ok d _ => if flatD d then .ok d ρ else .bad | _ => .bad) else .bad
  | none => .bad
section
variable {K : PySem.W.Frag} {mg : Str → Option Value} {G H H' G' : Hp} {S S' : List Addr} {σ σc σ' : Sg} {ρ ρc ρc' : Env}
theorem StOk.noTab (st : StOk K mg G H σ ρ S) : Sub G (noTab H) := fun a o e => noTab_get (st.sub a o e) (st.gno a o e)
theorem lent_stp (st : StOk K mg G H σ ρ S) (t : Stp K mg (noTab H) H [] σc ρc G' H' S' σ' ρc') : Stp K mg G H S σ ρ G H' S σ ρ :=
  have kp : ∀ {a : Addr} {o : HO}, H a = some o → NTb o → H' a = some o := fun {a o} h n => t.st.sub a o (t.sub a o (noTab_get h n))
  ⟨Sub.refl _, fun a o h nt n _ => ⟨n, kp h nt⟩, fun a h => .inl h, t.trk, fun i s h4 h5 => ⟨rfl, s, h4, h5⟩,
    ⟨fun a o h => kp (st.sub a o h) (st.gno a o h), st.sls.mono (Sub.refl _) fun a ha => by
      obtain ⟨o, e, n⟩ := st.sls.tracked a ha
      rw [e]; exact kp e n, st.nd, st.out, st.gno, t.st.tab⟩⟩
theorem flat_rep {d : D} {v : V} (r : Rep K mg G' d v) (h : flatD d = true) : Rep K mg G d v := by
  cases r with
  | non => exact .non
  | bl b => exact .bl b
  | int i => exact .int i
  | str z => exact .str z
  | _ => cases h
end
section
variable {X : Cx} {W : WX} {k : Nat} {ps : List Str} {F : M D} {x y : Str} {pr : Arguments} {e : Expr} {es : List Expr} {las : List La} {p pos : Pos}
def rdL (K : PySem.W.Frag) (mg : Str → Option Value) (las : List La) : TA := fun σ H Q => ∃ G ρ S ds, StOk K mg G H σ ρ S ∧ laDs ρ las = some ds ∧ ∀ vs, RepL K mg (noTab H) ds vs → Q vs H
abbrev DL (X : Cx) (es : List Expr) (las : List La) : Prop := PA X es (rdL X.K X.mg las)
theorem dl_nil : DL X [] [] := PAimp pa_nil fun σ H Q ⟨G, ρ, S, ds, st, e, q⟩ => by
  cases e
  exact q _ .nil
theorem dl_var (i : Nat) (t : DL X es las) (hN : X.N[i]? = some x := by rfl) (hv : Vis X.env.scope x := by first | exact Or.inl rfl | exact Or.inr (Or.inl rfl) | exact Or.inr (Or.inr rfl)) (hd : (x == ("__debug__" : Str)) = false := by decide) (hcd : (x == ("__classdict__" : Str)) = false := by decide)
    (hs : starEach (.Name x pos :: es) X.env = (false, eval (.Name x pos) X.env) :: starEach es X.env := by rfl) : DL X (.Name x pos :: es) (.v i :: las) := by
  refine PAimp (pa_cons (pe_var hN hv hd hcd) t hs) ?_
  rintro σ H Q ⟨G, ρ, S, ds, st, e, q⟩
  simp only [laDs] at e
  split at e
  · rename_i d ed
    split at e
    · rename_i dl el
      cases e
      have : ∃ v, σ[i]? = some (some v) ∧ Rep X.K X.mg (noTab H) d v := by
        simp only [laD] at ed
        split at ed
        · rename_i d' e1
          cases ed
          obtain ⟨o, _, _, _, h1, _, h3, _⟩ := st.sls.at e1
          cases h3 with | dat r => exact ⟨_, h1, r.sub st.noTab⟩
        · rename_i e1
          cases ed
          obtain ⟨o, _, _, _, h1, _, h3, _⟩ := st.sls.at e1
          cases h3 with | lst hp l => exact ⟨_, h1, .lst (noTab_get hp ntb_lst) (l.sub st.noTab)⟩
        · rename_i e1
          cases ed
          obtain ⟨o, _, _, _, h1, _, h3, _⟩ := st.sls.at e1
          cases h3 with | dct hp l => exact ⟨_, h1, .dK (.inl (noTab_get hp ntb_dK)) (l.sub st.noTab)⟩
        · cases ed
      obtain ⟨v, h1, h2⟩ := this
      exact ⟨v, h1, G, ρ, S, dl, st, el, fun vs r => q _ (.cons h2 r)⟩
    · cases e
  · cases e
theorem dl_c {d : D} {v : V} (h : PE X e (tC v)) (r : ∀ G, Rep X.K X.mg G d v) (t : DL X es las) (hs : starEach (e :: es) X.env = (false, eval e X.env) :: starEach es X.env := by rfl) : DL X (e :: es) (.c d :: las) := by
  refine PAimp (pa_cons h t hs) ?_
  rintro σ H Q ⟨G, ρ, S, ds, st, e, q⟩
  simp only [laDs, laD] at e
  split at e
  · rename_i dl el
    cases e
    exact ⟨G, ρ, S, dl, st, el, fun vs rs => q _ (.cons (r _) rs)⟩
  · cases e
theorem dl_int {i : Int} {j : Nat} (t : DL X es las) (hs : starEach (.Constant (.int i) j pos :: es) X.env = (false, eval (.Constant (.int i) j pos) X.env) :: starEach es X.env := by rfl) : DL X (.Constant (.int i) j pos :: es) (.c (.int i) :: las) := dl_c pe_int (fun _ => .int i) t hs
theorem dcL (j : Nat) (C : Cal X.prog X.w X.K X.mg X.base x pr j ps F) (hb : BindsN x pr ps) (hr : Room k X.A) (tk : Takes X W) (ha : DL X (e :: es) las) (hj : j ≤ k := by decide) (hg : Gl X x := by rfl) (hdb : (x == ("__debug__" : Str)) = false := by decide)
    (he : starEach (e :: es) X.env = (false, eval e X.env) :: starEach es X.env := by rfl) (hpl : (backTo pos (starEach es X.env)).any (·.1) = false := by rfl) : DE X W (.Call (.Name x p) (e :: es) [] pos) (mCallL ps.length F las) := by
  obtain ⟨f, fd, body, sc, q, FD, FO, hm⟩ := C.ex
  refine PEimp (pe_callS FO (hr.mono hj) hg hm FD.kp (FD.bindsN fun kV doc pm an cdv ct us hl => hb q body sc kV doc pm an cdv ct us hl) (fun σ => passAt tk σ) ha hdb he hpl) ?_
  rintro σ H Q ⟨G, ρ, S, st, p⟩
  unfold mCallL at p
  split at p
  · rename_i ds el
    split at p
    · rename_i hn
      refine ⟨G, ρ, S, ds, st, el, fun vs rs => ?_⟩
      rw [decide_eq_true_eq] at hn
      refine ⟨by rw [← rs.length]; exact hn, noTab H, dats ds, [], ⟨noTab_sub H, sls_dats rs, by simp, by simp, fun b o e => noTab_ntb H e, st.tab⟩, ?_⟩
      cases q : F (dats ds) with
      | ok d ρ' =>
        rw [q] at p
        simp only at p
        split at p
        · rename_i hf
          exact fun G' H' S' t v r => p _ _ _ (lent_stp st t) v (flat_rep r hf)
        · exact p.elim
      | err m fs ρ' => rw [q] at p; exact p.elim
      | bad => rw [q] at p; exact p.elim
    · exact p.elim
  · exact p.elim
end
section
variable {P : Program} {w : World} {K : PySem.W.Frag} {mg : Str → Option Value} {base : Heap}
theorem cal_mkC {p : He.Defn} {x q : Str} {pr : Arguments} {body : List Stmt} {sc : Scope} {fd : FuncData} {N ps : List Str} {k kn : Nat} {mb : MS} (F : FunD K x q pr body sc [] [] (He.fAd K p) fd) (hg : mg x = some (.ref (He.fAd K p))) (S : FnScope N ps sc)
    (hbody : ∀ (A : Around) (outer : List PySem.Env) (s : Shared) (H : Hp) (E : XK), Room k (A.deeper (envOfC q sc s.heap.objs.size (He.fAd K p) (.ref (He.codeOf K p)))) →
      DSs (cxOf (L2.CX P w) P w K mg base N q sc (He.fAd K p) (.ref (He.codeOf K p)) A outer s H E) (WEx E) body mb) (hk : N.length = ps.length + kn := by rfl) : Cal P w K mg base x pr (k + 1) ps (mFn kn mb) := by
  obtain ⟨oc, od, dV, kV, doc, pm, an, cdv, ct, osl, efd, lk, hcd, _, _⟩ := F.ex
  subst efd
  obtain ⟨c, rfl⟩ := He.codeIn_ref hcd
  have ec : He.codeOf K p = c := He.codeOf_eq lk rfl
  subst ec
  exact ⟨_, _, body, sc, q, F, fn_of lk hcd S (fun vs H Q E h => h.1) fun A outer s H vs Q E hr h => body_ok rfl rfl hk h (hbody A outer s H E hr), hg⟩
end
end FW

set_option Elab.async false
set_option linter.all false
set_option maxRecDepth 100000
set_option maxHeartbeats 400000
/-! FW43: a def that catches, at any context over the same module. -/
namespace FW
open PySem PySem.Spec L2
variable [Tc]
/-- as many turns as an own list has items, and the last look -/
def fuelL (i : Nat) : Env → Nat := fun ρ => match ρ[i]? with | some (.lst _ xs) => xs.length + 1 | _ => 0
theorem caught_givesK {K : PySem.W.Frag} {mg : Str → Option Value} {X : Cx} (hK : X.K = K) (hm : X.mg = mg) {Ng : List Str} {x a y n e q : Str} {sg : Scope} {g CS : Addr} {cdg : Value} {i j j0 : Nat} {q1 q2 q3 p1 p2 p3 p4 p5 p6 p7 p8 p9 p10 pa : Pos} (hge : sg.names.lookup e = some .globalImplicit) (hme : mg e = some (.ref CS)) (hde : (e == ("__debug__" : Str)) = false)
    (hN : Ng.Nodup) (hi : Ng[i]? = some n) (hj : Ng[j]? = some y) (hij : i ≠ j) (hj0 : j ≠ 0) (hln : sg.names.lookup n = some .local) (hly : sg.names.lookup y = some .local) (h0 : ∀ f : Addr, (L2.start Ng [V.ref f])[0]? = some (some (V.ref f)))
    (hdn : (n == ("__debug__" : Str)) = false) (hcn : (n == ("__classdict__" : Str)) = false) (hdy : (y == ("__debug__" : Str)) = false) (hcy : (y == ("__classdict__" : Str)) = false) :
    LamX.GivesTo X Ng x sg g cdg [.Assign [.Name y q1] (.Constant .none j0 q2) q3, .Try [.Expr (.Call (.Name a p1) [] [] p2) p3] [.ExceptHandler (some (.Name e p4)) (some n) [.Assign [.Name y p5] (.Name n p6) pa] p7] [] [] p8, .Return (some (.Name y p9)) p10] a q (TTc K CS) := by
  subst hK hm
  exact caught_gives hge hme hde hN hi hj hij hj0 hln hly h0 hdn hcn hdy hcy
section
variable {X : Cx} {W : WX} {e : Expr} {ma : M (List D)} {p1 pos : Pos}
theorem dx_list (hml : X.mg "list" = none) (ha : DA X W [e] ma) (hg : Gl X "list" := by rfl) (he : starEach [e] X.env = (false, eval e X.env) :: starEach [] X.env := by rfl) (hpl : (backTo pos (starEach [] X.env)).any (·.1) = false := by rfl) :
    DX X W (.Call (.Name "list" p1) [e] [] pos) (mListX ma) := by
  refine PEimp (pe_callTy call_list_of hg hml (by decide +kernel) ha (by decide) (by decide) he hpl) ?_
  rintro σ H Q ⟨G, ρ, S, st, p⟩
  refine ⟨G, ρ, S, st, (PostO.bind p).imp fun ds ρ1 G1 H1 S1 _ ⟨t1, p1⟩ vs rs => ?_⟩
  obtain ⟨d, e, p2⟩ := PostO.opt p1
  have fin : ∀ {xs : List D} {p : Addr} {ys : List V}, RepL X.K X.mg G1 xs ys → d = .lst false xs → ∀ l, H1 l = none → Q (.ref l) (upd H1 l (.lst ys)) := fun {xs p ys} r ed a ha => by
    subst ed
    have al := Al.newH (o := .lst ys) t1.st.sub ha
    have hn : Nt H a := t1.trk a (nt_none ha)
    refine p2 _ _ _ (al.stp t1.st) (.ref a) [a] rfl (.lst upd_same r) (fun b hb => ?_) (by simp)
    simp at hb; subst hb
    exact ⟨hn, fun z => t1.st.sls.notNt z (nt_none ha), t1.st.sub.ne ha⟩
  cases rs with
  | nil => cases e
  | cons a b =>
    cases b with
    | cons _ _ => cases a <;> cases e
    | nil =>
      cases a with
      | lst h l => cases e; exact ⟨_, _, rfl, .inl (.inl (.inl (t1.st.sub _ _ h))), fin (p := 0) l rfl⟩
      | rol h l => cases e; exact ⟨_, _, rfl, .inl (sqL_rsub t1.st.sub.r h), fin (p := 0) l rfl⟩
      | tup h l => cases e; exact ⟨_, _, rfl, .inr (sqT_rsub t1.st.sub.r h), fin (p := 0) l rfl⟩
      | _ => cases e
end
end FW

set_option Elab.async false
set_option linter.all false
set_option maxRecDepth 100000
set_option maxHeartbeats 400000
/-! FW44: rules of the wishes for FW37 to FW43. -/
namespace FW
open PySem PySem.Spec L2
variable [Tc]
/-- an own list's slot -/
def wpOl (o : Option Sl) (K : Bool → List D → Prop) (_t : Tg K := .t) : Prop := match o with | some (.lst io xs) => K io xs | _ => False
theorem ol_i {io : Bool} {xs : List D} {K : Bool → List D → Prop} : wpOl (some (.lst io xs)) K = K io xs := by with_unfolding_all exact id rfl
def wpLa (o : Option Sl) (K : D → Prop) (_t : Tg K := .t) : Prop := match o with | some (.dat d) => K d | some (.lst _ xs) => K (.lst xs) | some (.dct _ xs) => K (.dK xs) | _ => False
theorem lq_dat {d : D} {K : D → Prop} : wpLa (some (.dat d)) K = K d := by with_unfolding_all exact id rfl
theorem lq_lst {io : Bool} {xs : List D} {K : D → Prop} : wpLa (some (.lst io xs)) K = K (.lst xs) := by with_unfolding_all exact id rfl
theorem lq_dct {io : Bool} {xs : List (Key × D)} {K : D → Prop} : wpLa (some (.dct io xs)) K = K (.dK xs) := by with_unfolding_all exact id rfl
section
variable {ρ : Env} {E : EP} {P : SP}
theorem w_append {i : Nat} {m : M D} : wpS (sAppend i m) ρ P = wpOl ρ[i]? (fun _ _ => wpE m ρ (fun d ρ1 => wpOl ρ1[i]? fun io xs => wpA (xs.length < sizeLine) (wpN (ρ1.set i (.lst io (xs ++ [d]))) fun ρ2 => P.nx ρ2)) P.er) := by
  with_unfolding_all
    unfold wpS sAppend wpOl
    cases ρ[i]? with
    | none => rfl
    | some s =>
      cases s with
      | lst io xs =>
        dsimp only
        unfold wpE Out.fl
        cases m ρ with
        | ok d ρ1 =>
          dsimp only [outW]
          cases ρ1[i]? with
          | none => rfl
          | some s =>
            cases s with
            | lst io xs =>
              dsimp only
              unfold wpA wpN
              by_cases h : xs.length < sizeLine
              · rw [if_pos h]; exact propext ⟨fun q => ⟨h, q⟩, fun q => q.2⟩
              · rw [if_neg h]; exact propext ⟨False.elim, fun q => h q.1⟩
            | _ => rfl
        | err c fs ρ1 => rfl
        | bad => rfl
      | _ => rfl
theorem w_brk : wpS (fun ρ => .bk ρ) ρ P = P.bk ρ := by with_unfolding_all exact id rfl
theorem w_cnt : wpS (fun ρ => .ct ρ) ρ P = P.ct ρ := by with_unfolding_all exact id rfl
def lisX : List D → Option Sl | [.lst xs] => some (.lst false xs) | [.rol xs] => some (.lst false xs) | [.tup xs] => some (.lst false xs) | _ => none
theorem lx_lst {xs : List D} : lisX [.lst xs] = some (.lst false xs) := by with_unfolding_all exact id rfl
theorem lx_rol {xs : List D} : lisX [.rol xs] = some (.lst false xs) := by with_unfolding_all exact id rfl
theorem lx_tup {xs : List D} : lisX [.tup xs] = some (.lst false xs) := by with_unfolding_all exact id rfl
theorem w_listX {m : M (List D)} {Q : Sl → Env → Prop} : wpE (mListX m) ρ Q E = wpE m ρ (fun ds ρ1 => wpO (lisX ds) fun s => Q s ρ1) E := by
  with_unfolding_all
    unfold mListX
    rw [w_bind]
    refine wpE_ext fun ds ρ1 => ?_
    exact w_opt
theorem w_noP {Q : Option Int → Env → Prop} : wpE mNoP ρ Q E = Q none ρ := by with_unfolding_all exact id rfl
def prt : D → Option (Option Int) | .int i => some (some i) | _ => none
theorem prt_int {i : Int} : prt (.int i) = some (some i) := by with_unfolding_all exact id rfl
theorem w_part {m : M D} {Q : Option Int → Env → Prop} : wpE (mPart m) ρ Q E = wpE m ρ (fun d ρ1 => wpO (prt d) fun o => Q o ρ1) E := by
  with_unfolding_all
    unfold mPart
    rw [w_bind]
    refine wpE_ext fun d ρ1 => ?_
    exact w_opt
theorem w_slice {m : M D} {lo hi : M (Option Int)} {Q : D → Env → Prop} : wpE (mSlice m lo hi) ρ Q E = wpE m ρ (fun d ρ1 => wpE lo ρ1 (fun l ρ2 => wpE hi ρ2 (fun h ρ3 => wpO (dSlice d l h) fun r => Q r ρ3) E) E) E := by
  with_unfolding_all
    unfold mSlice
    rw [w_bind]
    refine wpE_ext fun d ρ1 => ?_
    rw [w_bind]
    refine wpE_ext fun l ρ2 => ?_
    rw [w_bind]
    refine wpE_ext fun h ρ3 => ?_
    exact w_opt
theorem sl_lst {xs : List D} {l h : Option Int} : dSlice (.lst xs) l h = some (.lst (cut xs l h)) := by with_unfolding_all exact id rfl
theorem sl_rol {xs : List D} {l h : Option Int} : dSlice (.rol xs) l h = some (.lst (cut xs l h)) := by with_unfolding_all exact id rfl
theorem sl_tup {xs : List D} {l h : Option Int} : dSlice (.tup xs) l h = some (.tup (cut xs l h)) := by with_unfolding_all exact id rfl
theorem w_zip {m : M (List D)} {Q : List D → Env → Prop} : wpE (mZip m) ρ Q E = wpE m ρ (fun ds ρ1 => wpO (dZip ds) fun r => Q r ρ1) E := by
  with_unfolding_all
    unfold mZip
    rw [w_bind]
    refine wpE_ext fun ds ρ1 => ?_
    exact w_opt
theorem zz_ll {xs ys : List D} : dZip [.lst xs, .lst ys] = some (zipD xs ys) := by with_unfolding_all exact id rfl
theorem zz_tt {xs ys : List D} : dZip [.tup xs, .tup ys] = some (zipD xs ys) := by with_unfolding_all exact id rfl
theorem w_rep {xs : List D} {k : Int} {R : D → Prop} : wpO (dRep (.tup xs) (.int k)) R = wpA (xs ≠ [] ∧ 2 ≤ k ∧ k ≤ 1000 ∧ xs.length ≤ 1000) (R (.tup (List.replicate k.toNat xs).flatten)) := by
  with_unfolding_all
    show wpO (if decide (xs ≠ []) && (decide (2 ≤ k) && (decide (k ≤ 1000) && decide (xs.length ≤ 1000))) then some (D.tup (List.replicate k.toNat xs).flatten) else none) R = _
    by_cases h : xs ≠ [] ∧ 2 ≤ k ∧ k ≤ 1000 ∧ xs.length ≤ 1000
    · rw [if_pos (by simpa using h)]; exact propext ⟨fun q => ⟨h, q⟩, fun q => q.2⟩
    · rw [if_neg (by simpa using h)]; exact propext ⟨False.elim, fun q => h q.1⟩
theorem w_ownNe {i : Nat} {Q : Bool → Env → Prop} : wpE (mOwnNe i) ρ Q E = wpOl ρ[i]? fun _ xs => wpO (dNe (.lst xs) (.lst [])) fun b => Q b ρ := by
  with_unfolding_all
    unfold wpE mOwnNe wpOl
    cases ρ[i]? with
    | none => rfl
    | some s =>
      cases s with
      | lst io xs =>
        dsimp only
        cases dNe (.lst xs) (.lst []) <;> rfl
      | _ => rfl
theorem w_ownEq {i : Nat} {Q : Bool → Env → Prop} : wpE (mOwnEq i) ρ Q E = wpOl ρ[i]? fun _ xs => wpO (dEq (.lst xs) (.lst [])) fun b => Q b ρ := by
  with_unfolding_all
    unfold wpE mOwnEq wpOl
    cases ρ[i]? with
    | none => rfl
    | some s =>
      cases s with
      | lst io xs =>
        dsimp only
        cases dEq (.lst xs) (.lst []) <;> rfl
      | _ => rfl
theorem w_ownLen {i : Nat} {Q : D → Env → Prop} : wpE (mOwnLen i) ρ Q E = wpOl ρ[i]? fun _ xs => Q (.int xs.length) ρ := by
  with_unfolding_all
    unfold wpE mOwnLen wpOl
    cases ρ[i]? with
    | none => rfl
    | some s => cases s <;> rfl
theorem w_ixW {i : Nat} {k : Int} {Q : D → Env → Prop} : wpE (ixW i (.int k)) ρ Q E = wpOl ρ[i]? fun _ xs => wpO (atI xs k) fun x => Q x ρ := by
  with_unfolding_all
    unfold wpE ixW wpOl
    dsimp only
    cases ρ[i]? with
    | none => rfl
    | some s =>
      cases s with
      | lst io xs =>
        dsimp only
        cases atI xs k <;> rfl
      | _ => rfl
theorem w_ownIx {i : Nat} {m : M D} {Q : D → Env → Prop} : wpE (mOwnIx i m) ρ Q E = wpOl ρ[i]? fun _ _ => wpE m ρ (fun d ρ1 => wpE (ixW i d) ρ1 Q E) E := by
  with_unfolding_all
    rw [← w_bind]
    unfold wpE mOwnIx wpOl
    cases ρ[i]? with
    | none => rfl
    | some s => cases s <;> rfl
theorem w_popW {i : Nat} {k : Int} {Q : D → Env → Prop} : wpE (popW i (.int k)) ρ Q E = wpOl ρ[i]? fun io xs => wpA (-(2 ^ 63) ≤ k ∧ k < 2 ^ 63) (wpO (seqIndex? k xs.length) fun j => wpO xs[j]? fun x => wpN (ρ.set i (.lst io (xs.eraseIdx j))) fun ρ' => Q x ρ') := by
  with_unfolding_all
    unfold wpE popW wpOl
    dsimp only
    cases ρ[i]? with
    | none => rfl
    | some s =>
      cases s with
      | lst io xs =>
        dsimp only
        unfold wpA
        by_cases h : -(2 ^ 63) ≤ k ∧ k < 2 ^ 63
        · rw [if_pos (by simpa using h)]
          refine Eq.trans ?_ (propext (⟨fun q => ⟨h, q⟩, fun q => q.2⟩ : _ ↔ _))
          cases seqIndex? k xs.length with
          | none => rfl
          | some j =>
            show _ = wpO xs[j]? fun x => wpN (ρ.set i (.lst io (xs.eraseIdx j))) fun ρ' => Q x ρ'
            dsimp only
            cases xs[j]? <;> rfl
        · rw [if_neg (by simpa using h)]
          exact propext ⟨False.elim, fun q => h q.1⟩
      | _ => rfl
theorem w_ownPop {i : Nat} {m : M D} {Q : D → Env → Prop} : wpE (mOwnPop i m) ρ Q E = wpOl ρ[i]? fun _ _ => wpE m ρ (fun d ρ1 => wpE (popW i d) ρ1 Q E) E := by
  with_unfolding_all
    rw [← w_bind]
    unfold wpE mOwnPop wpOl
    cases ρ[i]? with
    | none => rfl
    | some s => cases s <;> rfl
theorem si_at {z : Int} {n : Nat} (h : 0 ≤ z) (h2 : z < n) : seqIndex? z n = some z.toNat := by
  with_unfolding_all
    obtain ⟨k, rfl⟩ := Int.eq_ofNat_of_zero_le h
    unfold seqIndex?
    simp only [Int.toNat_natCast] at *
    simp
    omega
theorem la_nil {Q : List D → Prop} : wpO (laDs ρ []) Q = Q [] := by with_unfolding_all exact id rfl
theorem la_v {i : Nat} {l : List La} {Q : List D → Prop} : wpO (laDs ρ (.v i :: l)) Q = wpLa ρ[i]? fun d => wpO (laDs ρ l) fun ds => Q (d :: ds) := by
  with_unfolding_all
    simp only [laDs, laD]
    unfold wpLa
    cases ρ[i]? with
    | none => rfl
    | some s =>
      cases s with
      | dat d => dsimp only; cases laDs ρ l <;> rfl
      | lst io xs => dsimp only; cases laDs ρ l <;> rfl
      | dct io xs => dsimp only; cases laDs ρ l <;> rfl
      | _ => rfl
theorem la_c {d : D} {l : List La} {Q : List D → Prop} : wpO (laDs ρ (.c d :: l)) Q = wpO (laDs ρ l) fun ds => Q (d :: ds) := by
  with_unfolding_all
    simp only [laDs, laD]
    cases laDs ρ l <;> rfl
theorem w_callL {n : Nat} {F : M D} {las : List La} {Q : D → Env → Prop} : wpE (mCallL n F las) ρ Q E = wpO (laDs ρ las) fun ds => wpA (ds.length = n) (wpE F (dats ds) (fun d _ => wpA (flatD d = true) (Q d ρ)) fun _ _ _ => False) := by
  with_unfolding_all
    unfold wpE mCallL
    cases laDs ρ las with
    | none => rfl
    | some ds =>
      dsimp only [wpO]
      unfold wpA
      by_cases h : ds.length = n
      · rw [if_pos (by simpa using h)]
        refine Eq.trans ?_ (propext (⟨fun q => ⟨h, q⟩, fun q => q.2⟩ : _ ↔ _))
        cases F (dats ds) with
        | ok d μ =>
          dsimp only [outW]
          by_cases h2 : flatD d = true
          · rw [if_pos h2]; exact propext ⟨fun q => ⟨h2, q⟩, fun q => q.2⟩
          · rw [if_neg h2]; exact propext ⟨False.elim, fun q => h2 q.1⟩
        | err c fs μ => rfl
        | bad => rfl
      · rw [if_neg (by simpa using h)]
        exact propext ⟨False.elim, fun q => h q.1⟩
theorem w_relay {n kn j : Nat} {mb : MS} {mc : M D} {ma : M (List D)} {Q : D → Env → Prop} : wpE (mRelay n kn j mb mc ma) ρ Q E =
    wpE ma ρ (fun ds ρ1 => wpE mc ρ1 (fun c ρ2 => wpA (ds.length + 1 = n) (wpN (((Sl.un :: dats ds) ++ List.replicate kn Sl.un).set j (.dat c)) fun μ => wpS mb μ ⟨fun _ => Q .non ρ2, fun d _ => Q d ρ2, fun _ => False, fun _ => False, fun c fs _ => E c fs ρ2⟩)) E) E := by
  with_unfolding_all
    unfold mRelay
    rw [w_bind]
    refine wpE_ext fun ds ρ1 => ?_
    rw [w_bind]
    refine wpE_ext fun c ρ2 => ?_
    unfold wpE wpA wpN wpS
    dsimp only
    by_cases h : ds.length + 1 = n
    · rw [if_pos h]
      refine Eq.trans ?_ (propext (⟨fun q => ⟨h, q⟩, fun q => q.2⟩ : _ ↔ _))
      cases mb (((Sl.un :: dats ds) ++ List.replicate kn Sl.un).set j (.dat c)) <;> rfl
    · rw [if_neg h]
      exact propext ⟨False.elim, fun q => h q.1⟩
theorem w_consX {m : M Sl} {n : M (List Sl)} {Q : List Sl → Env → Prop} : wpE (mConsX m n) ρ Q E = wpE m ρ (fun s ρ1 => wpE n ρ1 (fun ss ρ2 => wpA (s.io = false) (Q (s :: ss) ρ2)) E) E := by
  with_unfolding_all
    unfold mConsX
    rw [w_bind]
    refine wpE_ext fun s ρ1 => ?_
    rw [w_bind]
    refine wpE_ext fun ss ρ2 => ?_
    rw [w_opt]
    cases s.io <;> simp [wpO, wpA]
theorem rf_int {i : Int} : gReprF [.int i] = gRepr [.int i] := rfl
theorem rf_str {s : Str} : gReprF [.str s] = gRepr [.str s] := rfl
theorem rf_non : gReprF [.non] = gRepr [.non] := rfl
theorem rf_bl {b : Bool} : gReprF [.bl b] = gRepr [.bl b] := rfl
end
end FW

set_option Elab.async false
set_option linter.all false
set_option maxRecDepth 100000
set_option maxHeartbeats 4000000
namespace FL
open PySem PySem.Spec L2 FW
open PyProof.Rows (envOfC IntsAre AllBare)
open He (ga ma)
variable [Tc]
def top (i : Nat) : Stmt := PySem.Challenge.pw_firstwrong_k24_layouts_and_bases.main.body.getD i (.Pass ⟨0, 0, 0, 0⟩)
def e_BadLayout : ErrD := ⟨"BadLayout", "part", "part", "not a layout, or not places of blocks", 0, "BadLayout.__init__", defScope (clsInit (top 6)), ⟨26, 17, 26, 21⟩, ⟨26, 23, 26, 27⟩, ⟨27, 8, 27, 13⟩, ⟨27, 8, 27, 15⟩, ⟨27, 8, 27, 24⟩, ⟨27, 25, 27, 64⟩, ⟨27, 8, 27, 65⟩, ⟨27, 8, 27, 65⟩, ⟨28, 8, 28, 12⟩, ⟨28, 8, 28, 17⟩, ⟨28, 20, 28, 24⟩, ⟨28, 8, 28, 24⟩⟩
def e_BadNumber : ErrD := ⟨"BadNumber", "part", "part", "a number is wrong", 0, "BadNumber.__init__", defScope (clsInit (top 2)), ⟨6, 17, 6, 21⟩, ⟨6, 23, 6, 27⟩, ⟨7, 8, 7, 13⟩, ⟨7, 8, 7, 15⟩, ⟨7, 8, 7, 24⟩, ⟨7, 25, 7, 44⟩, ⟨7, 8, 7, 45⟩, ⟨7, 8, 7, 45⟩, ⟨8, 8, 8, 12⟩, ⟨8, 8, 8, 17⟩, ⟨8, 20, 8, 24⟩, ⟨8, 8, 8, 24⟩⟩
abbrev s_is_number : Stmt := top 8
abbrev N_is_number : List Str := ["thing"]
theorem sc_is_number : FnScope ["thing"] ["thing"] (defScope s_is_number) := ⟨rfl, rfl, rfl, by decide +kernel, rfl, by decide +kernel, by decide +kernel⟩
theorem b_is_number : BindsN "is_number" (defArgs s_is_number) ["thing"] := fun _ _ _ _ _ _ _ _ _ us hl => match us, hl with | [_], _ => rfl
abbrev m_is_number : MS := (sRet (mAndV (mIsi ["int"] (mVar 0)) (mBl (mNot (mTru (mIsi ["bool"] (mVar 0)))))))
def F_is_number : M D := mFn 0 m_is_number
abbrev s_is_between : Stmt := top 9
abbrev N_is_between : List Str := ["thing", "low", "high"]
theorem sc_is_between : FnScope ["thing", "low", "high"] ["thing", "low", "high"] (defScope s_is_between) := ⟨rfl, rfl, rfl, by decide +kernel, rfl, by decide +kernel, by decide +kernel⟩
theorem b_is_between : BindsN "is_between" (defArgs s_is_between) ["thing", "low", "high"] := fun _ _ _ _ _ _ _ _ _ us hl => match us, hl with | [_, _, _], _ => rfl
abbrev m_is_between : MS := (sRet (mAndV (mCallF 1 F_is_number (mCons (mVar 0) (mPure []))) (mChainV dLe dLe (mVar 1) (mVar 0) (mVar 2))))
def F_is_between : M D := mFn 0 m_is_between
abbrev s_is_list : Stmt := top 10
abbrev N_is_list : List Str := ["thing"]
theorem sc_is_list : FnScope ["thing"] ["thing"] (defScope s_is_list) := ⟨rfl, rfl, rfl, by decide +kernel, rfl, by decide +kernel, by decide +kernel⟩
theorem b_is_list : BindsN "is_list" (defArgs s_is_list) ["thing"] := fun _ _ _ _ _ _ _ _ _ us hl => match us, hl with | [_], _ => rfl
abbrev m_is_list : MS := (sRet (mIsi ["list", "tuple"] (mVar 0)))
def F_is_list : M D := mFn 0 m_is_list
abbrev s_is_tuple : Stmt := top 11
abbrev N_is_tuple : List Str := ["thing", "size"]
theorem sc_is_tuple : FnScope ["thing", "size"] ["thing", "size"] (defScope s_is_tuple) := ⟨rfl, rfl, rfl, by decide +kernel, rfl, by decide +kernel, by decide +kernel⟩
theorem b_is_tuple : BindsN "is_tuple" (defArgs s_is_tuple) ["thing", "size"] := fun _ _ _ _ _ _ _ _ _ us hl => match us, hl with | [_, _], _ => rfl
abbrev m_is_tuple : MS := (sRet (mAndV (mIsi ["tuple"] (mVar 0)) (mBl (mCmp dEq (mCall gLen (mCons (mVar 0) (mPure []))) (mVar 1)))))
def F_is_tuple : M D := mFn 0 m_is_tuple
abbrev s_is_int : Stmt := top 16
abbrev N_is_int : List Str := ["thing"]
theorem sc_is_int : FnScope ["thing"] ["thing"] (defScope s_is_int) := ⟨rfl, rfl, rfl, by decide +kernel, rfl, by decide +kernel, by decide +kernel⟩
theorem b_is_int : BindsN "is_int" (defArgs s_is_int) ["thing"] := fun _ _ _ _ _ _ _ _ _ us hl => match us, hl with | [_], _ => rfl
abbrev m_is_int : MS := (sRet (mCallF 3 F_is_between (mCons (mVar 0) (mCons (mPure (.int (-2147483648))) (mCons (mPure (.int (2147483647))) (mPure []))))))
def F_is_int : M D := mFn 0 m_is_int
abbrev s_is_layout : Stmt := top 20
abbrev N_is_layout : List Str := ["thing", "item"]
theorem sc_is_layout : FnScope ["thing", "item"] ["thing"] (defScope s_is_layout) := ⟨rfl, rfl, rfl, by decide +kernel, rfl, by decide +kernel, by decide +kernel⟩
theorem b_is_layout : BindsN "is_layout" (defArgs s_is_layout) ["thing"] := fun _ _ _ _ _ _ _ _ _ us hl => match us, hl with | [_], _ => rfl
abbrev m_is_layout : MS := (sSeq (sIf (mOr (mNot (mTru (mCallF 2 F_is_tuple (mCons (mVar 0) (mCons (mPure (.int 2)) (mPure [])))))) (mOr (mNot (mTru (mCallF 1 F_is_int (mCons (mOp dIx (mVar 0) (mPure (.int 0))) (mPure []))))) (mNot (mTru (mIsi ["tuple"] (mOp dIx (mVar 0) (mPure (.int 1)))))))) (sRet (mPure (.bl false))) sNx)
  (sRet (mAndV (mBl (mCmp dLe (mCall gLen (mCons (mOp dIx (mVar 0) (mPure (.int 1))) (mPure []))) (mPure (.int (400))))) (mCall gAll (mCons (mFz (mLc [1] (mItems (mOp dIx (mVar 0) (mPure (.int 1)))) (gNameD 1) (mPure true) (mCallF 3 F_is_between (mCons (mVar 1) (mCons (mPure (.int 1)) (mCons (mPure (.int (1048576))) (mPure []))))))) (mPure []))))))
def F_is_layout : M D := mFn 1 m_is_layout
abbrev s_free_base : Stmt := top 21
abbrev N_free_base : List Str := ["taken", "many", "hint", "base", "start", "cells"]
theorem sc_free_base : FnScope ["taken", "many", "hint", "base", "start", "cells"] ["taken", "many", "hint"] (defScope s_free_base) := ⟨rfl, rfl, rfl, by decide +kernel, rfl, by decide +kernel, by decide +kernel⟩
theorem b_free_base : BindsN "free_base" (defArgs s_free_base) ["taken", "many", "hint"] := fun _ _ _ _ _ _ _ _ _ us hl => match us, hl with | [_, _, _], _ => rfl
abbrev m_free_base : MS := (sSeq (sAsg (mVar 2) (gNameD 3))
  (sSeq (sFor (mItems (mCall gSorted (mCons (mVar 0) (mPure [])))) (gTupD (gConsD (gNameD 4) (gConsD (gNameD 5) gNilD))) (sIf (mAnd (mCmp dLe (mVar 4) (mOp dAdd (mVar 3) (mVar 1))) (mCmp dLe (mVar 3) (mOp dAdd (mVar 4) (mVar 5)))) (sAsg (mOp dAdd (mOp dAdd (mVar 4) (mVar 5)) (mPure (.int 1))) (gNameD 3)) sNx))
  (sRet (mVar 3))))
def F_free_base : M D := mFn 3 m_free_base
abbrev s_is_taken : Stmt := top 22
abbrev N_is_taken : List Str := ["thing", "item", "some", "one", "other"]
theorem sc_is_taken : FnScope ["thing", "item", "some", "one", "other"] ["thing"] (defScope s_is_taken) := ⟨rfl, rfl, rfl, by decide +kernel, rfl, by decide +kernel, by decide +kernel⟩
theorem b_is_taken : BindsN "is_taken" (defArgs s_is_taken) ["thing"] := fun _ _ _ _ _ _ _ _ _ us hl => match us, hl with | [_], _ => rfl
abbrev m_is_taken : MS := (sSeq (sIf (mNot (mTru (mCallF 1 F_is_list (mCons (mVar 0) (mPure []))))) (sRet (mPure (.bl false))) sNx)
  (sSeq (sFor (mItems (mVar 0)) (gNameD 1) (sIf (mOr (mNot (mTru (mCallF 2 F_is_tuple (mCons (mVar 1) (mCons (mPure (.int 2)) (mPure [])))))) (mOr (mNot (mTru (mCallF 3 F_is_between (mCons (mOp dIx (mVar 1) (mPure (.int 0))) (mCons (mPure (.int 1)) (mCons (mOp dIx (mVar 1) (mPure (.int 0))) (mPure []))))))) (mNot (mTru (mCallF 3 F_is_between (mCons (mOp dIx (mVar 1) (mPure (.int 1))) (mCons (mPure (.int 1)) (mCons (mPure (.int (16))) (mPure []))))))))) (sRet (mPure (.bl false))) sNx))
  (sSeq (sAsg (mCall gSorted (mCons (mVar 0) (mPure []))) (gNameD 2))
  (sRet (mCall gAll (mCons (mFz (mLc [3, 4] (mZip (mCons (mVar 2) (mCons (mSlice (mVar 2) (mPart (mPure (.int 1))) mNoP) (mPure [])))) (gTupD (gConsD (gNameD 3) (gConsD (gNameD 4) gNilD))) (mPure true) (mBl (mCmp dLt (mOp dAdd (mOp dIx (mVar 3) (mPure (.int 0))) (mOp dIx (mVar 3) (mPure (.int 1)))) (mOp dIx (mVar 4) (mPure (.int 0))))))) (mPure [])))))))
def F_is_taken : M D := mFn 4 m_is_taken
abbrev s_least_base : Stmt := top 23
abbrev N_least_base : List Str := ["taken", "many", "hint"]
theorem sc_least_base : FnScope ["taken", "many", "hint"] ["taken", "many", "hint"] (defScope s_least_base) := ⟨rfl, rfl, rfl, by decide +kernel, rfl, by decide +kernel, by decide +kernel⟩
theorem b_least_base : BindsN "least_base" (defArgs s_least_base) ["taken", "many", "hint"] := fun _ _ _ _ _ _ _ _ _ us hl => match us, hl with | [_, _, _], _ => rfl
abbrev m_least_base : MS := (sSeq (sIf (mNot (mTru (mCallF 1 F_is_taken (mCons (mVar 0) (mPure []))))) (sRaise (mErr1 "BadLayout" "part" (mPure (.str "taken")))) sNx)
  (sSeq (sIf (mNot (mTru (mCallF 3 F_is_between (mCons (mVar 1) (mCons (mPure (.int 1)) (mCons (mPure (.int (16))) (mPure []))))))) (sRaise (mErr1 "BadNumber" "part" (mPure (.str "many")))) sNx)
  (sSeq (sIf (mNot (mTru (mCallF 3 F_is_between (mCons (mVar 2) (mCons (mPure (.int 1)) (mCons (mVar 2) (mPure []))))))) (sRaise (mErr1 "BadNumber" "part" (mPure (.str "hint")))) sNx)
  (sRet (mCallF 3 F_free_base (mCons (mVar 0) (mCons (mVar 1) (mCons (mVar 2) (mPure [])))))))))
def F_least_base : M D := mFn 0 m_least_base
abbrev s__law_begun : Stmt := top 25
abbrev N__law_begun : List Str := ["_law_script", "_law_large", "_law_grain"]
theorem sc__law_begun : FnScope ["_law_script", "_law_large", "_law_grain"] ["_law_script"] (defScope s__law_begun) := ⟨rfl, rfl, rfl, by decide +kernel, rfl, by decide +kernel, by decide +kernel⟩
theorem b__law_begun : BindsN "_law_begun" (defArgs s__law_begun) ["_law_script"] := fun _ _ _ _ _ _ _ _ _ us hl => match us, hl with | [_], _ => rfl
abbrev m1_begun : M Sl := (mLc [2] (mItems (mVar 0)) (gNameD 2) (mCmp dGe (mCall gAbs (mCons (mVar 2) (mPure []))) (mOp dPow (mPure (.int 10)) (mPure (.int 18)))) (mOp dSub (mCall gAbs (mCons (mVar 2) (mPure []))) (mOp dPow (mPure (.int 10)) (mPure (.int 18)))))
abbrev m2_begun : M Sl := (mLc [2] (mItems (mVar 0)) (gNameD 2) (mPure true) (mCall gAbs (mCons (mVar 2) (mPure []))))
abbrev s__law_mixed : Stmt := top 26
abbrev N__law_mixed : List Str := ["_law_draw", "_law_turn", "_law_found", "_law_great", "_law_blend", "_law_grain"]
theorem sc__law_mixed : FnScope ["_law_draw", "_law_turn", "_law_found", "_law_great", "_law_blend", "_law_grain"] ["_law_draw"] (defScope s__law_mixed) := ⟨rfl, rfl, rfl, by decide +kernel, rfl, by decide +kernel, by decide +kernel⟩
theorem b__law_mixed : BindsN "_law_mixed" (defArgs s__law_mixed) ["_law_draw"] := fun _ _ _ _ _ _ _ _ _ us hl => match us, hl with | [_], _ => rfl
abbrev m__law_mixed : MS := (sSeq (sTurn 0 (mOp dAdd (mTurn 0) (mPure (.int 1))))
  (sSeq (sPar [1, 2] (mConsD (mCall gInt (mCons (mTurn 0) (mPure []))) (mConsD (mPure (.int 0)) (mPure []))))
  (sSeq (sFor (mItems (mFz (mLstX (mCons (mPure (.int 2147483629)) (mCons (mPure (.int 2147483587)) (mCons (mPure (.int 2147483579)) (mPure []))))))) (gNameD 3) (sSeq (sAsg (mOp dMod (mOp dAdd (mOp dMul (mVar 1) (mPure (.int 69621))) (mOp dDiv (mVar 3) (mPure (.int 7)))) (mVar 3)) (gNameD 4))
  (sSeq (sFor (mItems (mCells 0)) (gNameD 5) (sAsg (mOp dMod (mOp dAdd (mOp dMul (mVar 4) (mPure (.int 48271))) (mCall gInt (mCons (mVar 5) (mPure [])))) (mVar 3)) (gNameD 4)))
  (sAsg (mOp dAdd (mOp dMul (mVar 2) (mPure (.int 2147483647))) (mOp dMod (mOp dPow (mVar 4) (mPure (.int 5))) (mVar 3))) (gNameD 2)))))
  (sRet (mVar 2)))))
def F__law_mixed : M D := mFn 5 m__law_mixed
abbrev s__law_take : Stmt := top 27
abbrev N__law_take : List Str := ["_law_draw", "_law_amount", "_law_found"]
theorem sc__law_take : FnScope ["_law_draw", "_law_amount", "_law_found"] ["_law_draw", "_law_amount"] (defScope s__law_take) := ⟨rfl, rfl, rfl, by decide +kernel, rfl, by decide +kernel, by decide +kernel⟩
theorem b__law_take : BindsN "_law_take" (defArgs s__law_take) ["_law_draw", "_law_amount"] := fun _ _ _ _ _ _ _ _ _ us hl => match us, hl with | [_, _], _ => rfl
abbrev m__law_take : MS := (sSeq (sIf (mCmp dEq (mRest 0) (mPure (.int 0))) (sRest 0 (mIte (mLargeNe 0) (mLargePop 0) (mCallB 0 1 F__law_mixed (mPure [])))) sNx)
  (sSeq (sAsg (mOp dMod (mCall gInt (mCons (mRest 0) (mPure []))) (mVar 1)) (gNameD 2))
  (sSeq (sRest 0 (mOp dDiv (mCall gInt (mCons (mRest 0) (mPure []))) (mVar 1)))
  (sRet (mVar 2)))))
def F__law_take : M D := mFn 1 m__law_take
abbrev s__law_pick : Stmt := top 28
abbrev N__law_pick : List Str := ["_law_draw", "_law_some"]
theorem sc__law_pick : FnScope ["_law_draw", "_law_some"] ["_law_draw", "_law_some"] (defScope s__law_pick) := ⟨rfl, rfl, rfl, by decide +kernel, rfl, by decide +kernel, by decide +kernel⟩
theorem b__law_pick : BindsN "_law_pick" (defArgs s__law_pick) ["_law_draw", "_law_some"] := fun _ _ _ _ _ _ _ _ _ us hl => match us, hl with | [_, _], _ => rfl
abbrev m__law_pick : MS := (sRet (mOp dIx (mVar 1) (mCallB 0 2 F__law_take (mCons (mCall gLen (mCons (mVar 1) (mPure []))) (mPure [])))))
def F__law_pick : M D := mFn 0 m__law_pick
abbrev s__law_shuffled : Stmt := top 29
abbrev N__law_shuffled : List Str := ["_law_draw", "_law_some", "_law_left", "_law_found"]
theorem sc__law_shuffled : FnScope ["_law_draw", "_law_some", "_law_left", "_law_found"] ["_law_draw", "_law_some"] (defScope s__law_shuffled) := ⟨rfl, rfl, rfl, by decide +kernel, rfl, by decide +kernel, by decide +kernel⟩
theorem b__law_shuffled : BindsN "_law_shuffled" (defArgs s__law_shuffled) ["_law_draw", "_law_some"] := fun _ _ _ _ _ _ _ _ _ us hl => match us, hl with | [_, _], _ => rfl
abbrev m__law_shuffled : MS := (sSeq (sPar [2, 3] (mConsX (mListX (mCons (mVar 1) (mPure []))) (mConsX (mLstX (mPure [])) (mPure []))))
  (sSeq (sWhile (fuelL 2) (mOwnNe 2) (sAppend 3 (mOwnPop 2 (mCallB 0 2 F__law_take (mCons (mOwnLen 2) (mPure []))))))
  (sRet (mVar 3))))
def F__law_shuffled : M D := mFn 2 m__law_shuffled
abbrev s__law_is_truth : Stmt := top 30
abbrev N__law_is_truth : List Str := ["_law_found", "_law_due"]
theorem sc__law_is_truth : FnScope ["_law_found", "_law_due"] ["_law_found", "_law_due"] (defScope s__law_is_truth) := ⟨rfl, rfl, rfl, by decide +kernel, rfl, by decide +kernel, by decide +kernel⟩
theorem b__law_is_truth : BindsN "_law_is_truth" (defArgs s__law_is_truth) ["_law_found", "_law_due"] := fun _ _ _ _ _ _ _ _ _ us hl => match us, hl with | [_, _], _ => rfl
abbrev m__law_is_truth : MS := (sRet (mIte (mTru (mVar 1)) (mBl (mCmp dIs (mVar 0) (mPure (.bl true)))) (mBl (mCmp dIs (mVar 0) (mPure (.bl false))))))
def F__law_is_truth : M D := mFn 0 m__law_is_truth
abbrev s__law_caught : Stmt := top 31
abbrev N__law_caught : List Str := ["_law_work", "_law_caught_here", "error"]
theorem sc__law_caught : FnScope ["_law_work", "_law_caught_here", "error"] ["_law_work"] (defScope s__law_caught) := ⟨rfl, rfl, rfl, by decide +kernel, rfl, by decide +kernel, by decide +kernel⟩
theorem b__law_caught : BindsN "_law_caught" (defArgs s__law_caught) ["_law_work"] := fun _ _ _ _ _ _ _ _ _ us hl => match us, hl with | [_], _ => rfl
abbrev s__law_size : Stmt := top 32
abbrev N__law_size : List Str := ["_law_draw"]
theorem sc__law_size : FnScope ["_law_draw"] ["_law_draw"] (defScope s__law_size) := ⟨rfl, rfl, rfl, by decide +kernel, rfl, by decide +kernel, by decide +kernel⟩
theorem b__law_size : BindsN "_law_size" (defArgs s__law_size) ["_law_draw"] := fun _ _ _ _ _ _ _ _ _ us hl => match us, hl with | [_], _ => rfl
abbrev m__law_size : MS := (sSeq (sIf (mCmp dGt (mCallB 0 2 F__law_take (mCons (mPure (.int 12)) (mPure []))) (mPure (.int 0))) (sRet (mOp dSub (mCallB 0 2 F__law_take (mCons (mPure (.int 21)) (mPure []))) (mPure (.int 10)))) sNx)
  (sRet (mCallB 0 2 F__law_pick (mCons (mFz (mLstX (mCons (mOp dSub (mOp dPow (mPure (.int 2)) (mPure (.int 31))) (mPure (.int 1))) (mCons (mOp dSub (mPure (.int 0)) (mOp dPow (mPure (.int 2)) (mPure (.int 31)))) (mCons (mPure (.int 65536)) (mCons (mOp dSub (mPure (.int 0)) (mPure (.int 65536))) (mCons (mOp dSub (mCallB 0 2 F__law_take (mCons (mOp dPow (mPure (.int 2)) (mPure (.int 32))) (mPure []))) (mOp dPow (mPure (.int 2)) (mPure (.int 31)))) (mPure [])))))))) (mPure [])))))
def F__law_size : M D := mFn 0 m__law_size
abbrev s__law_layout : Stmt := top 33
abbrev N__law_layout : List Str := ["_law_draw", "_law_way", "_law_hints_here", "_law_many", "_law_lap", "_law_far"]
theorem sc__law_layout : FnScope ["_law_draw", "_law_way", "_law_hints_here", "_law_many", "_law_lap", "_law_far"] ["_law_draw"] (defScope s__law_layout) := ⟨rfl, rfl, rfl, by decide +kernel, rfl, by decide +kernel, by decide +kernel⟩
theorem b__law_layout : BindsN "_law_layout" (defArgs s__law_layout) ["_law_draw"] := fun _ _ _ _ _ _ _ _ _ us hl => match us, hl with | [_], _ => rfl
abbrev m__law_layout : MS := (sSeq (sPar [1, 2] (mConsD (mCallB 0 2 F__law_take (mCons (mPure (.int 5)) (mPure []))) (mConsX (mLstX (mPure [])) (mPure []))))
  (sSeq (sAsg (mCallB 0 2 F__law_pick (mCons (mFz (mLstX (mCons (mPure (.int 0)) (mCons (mPure (.int 0)) (mCons (mPure (.int 1)) (mCons (mPure (.int 3)) (mCons (mPure (.int 8)) (mCons (mPure (.int 20)) (mCons (mPure (.int 60)) (mPure [])))))))))) (mPure []))) (gNameD 3))
  (sSeq (sFor (mRange1 (mCons (mIte (mCmp dGt (mVar 1) (mPure (.int 0))) (mVar 3) (mPure (.int 0))) (mPure []))) (gNameD 4) (sSeq (sAsg (mCallB 0 2 F__law_pick (mCons (mFz (mLstX (mCons (mPure (.int 1)) (mCons (mPure (.int 2)) (mCons (mOp dAdd (mPure (.int 3)) (mCallB 0 2 F__law_take (mCons (mPure (.int 30)) (mPure [])))) (mCons (mOp dAdd (mPure (.int 1)) (mCallB 0 2 F__law_take (mCons (mPure (.int 60)) (mPure [])))) (mCons (mOp dSub (mOp dPow (mPure (.int 2)) (mPure (.int 20))) (mCallB 0 2 F__law_take (mCons (mPure (.int 40)) (mPure [])))) (mPure [])))))))) (mPure []))) (gNameD 5))
  (sAppend 2 (mIte (mCmp dEq (mVar 1) (mPure (.int 1))) (mPure (.int 1)) (mVar 5)))))
  (sRet (mTup (mCons (mCallB 0 1 F__law_size (mPure [])) (mCons (mCall gTuple (mCons (mVar 2) (mPure []))) (mPure []))))))))
def F__law_layout : M D := mFn 5 m__law_layout
abbrev s__law_no_layout : Stmt := top 34
abbrev N__law_no_layout : List Str := ["_law_draw", "_law_some"]
theorem sc__law_no_layout : FnScope ["_law_draw", "_law_some"] ["_law_draw"] (defScope s__law_no_layout) := ⟨rfl, rfl, rfl, by decide +kernel, rfl, by decide +kernel, by decide +kernel⟩
theorem b__law_no_layout : BindsN "_law_no_layout" (defArgs s__law_no_layout) ["_law_draw"] := fun _ _ _ _ _ _ _ _ _ us hl => match us, hl with | [_], _ => rfl
abbrev m__law_no_layout : MS := (sSeq (sAsg (mFz (mLstX (mCons (mPure .non) (mCons (mPure (.int 5)) (mCons (mTup (mPure [])) (mCons (mTup (mCons (mPure (.int 0)) (mPure []))) (mCons (mFz (mLstX (mCons (mPure (.int 0)) (mCons (mTup (mPure [])) (mPure []))))) (mCons (mTup (mCons (mPure (.int 0)) (mCons (mFz (mLstX (mPure []))) (mPure [])))) (mCons (mTup (mCons (mPure (.int 0)) (mCons (mTup (mPure [])) (mCons (mPure (.int 0)) (mPure []))))) (mCons (mTup (mCons (mPure (.bl true)) (mCons (mTup (mPure [])) (mPure [])))) (mCons (mTup (mCons (mOp dPow (mPure (.int 2)) (mPure (.int 31))) (mCons (mTup (mPure [])) (mPure [])))) (mCons (mTup (mCons (mPure .non) (mCons (mTup (mPure [])) (mPure [])))) (mCons (mTup (mCons (mPure (.int 0)) (mCons (mTup (mCons (mPure (.int 0)) (mPure []))) (mPure [])))) (mCons (mTup (mCons (mPure (.int 0)) (mCons (mTup (mCons (mPure (.int 1)) (mCons (mOp dAdd (mOp dPow (mPure (.int 2)) (mPure (.int 20))) (mPure (.int 1))) (mPure [])))) (mPure [])))) (mPure []))))))))))))))) (gNameD 1))
  (sRet (mCallB 0 2 F__law_pick (mCons (mOp dAdd (mVar 1) (mFz (mLstX (mCons (mTup (mCons (mPure (.int 0)) (mCons (mTup (mCons (mPure (.int 1)) (mCons (mPure .non) (mPure [])))) (mPure [])))) (mCons (mTup (mCons (mPure (.int 0)) (mCons (mTup (mCons (mPure (.bl true)) (mPure []))) (mPure [])))) (mCons (mTup (mCons (mPure (.int 0)) (mCons (mOp dRep (mTup (mCons (mPure (.int 1)) (mPure []))) (mPure (.int 401))) (mPure [])))) (mCons (mTup (mCons (mPure (.str "0")) (mCons (mTup (mPure [])) (mPure [])))) (mCons (mTup (mCons (mPure (.int 0)) (mCons (mPure (.int 5)) (mPure [])))) (mCons (mTup (mCons (mOp dSub (mOp dSub (mPure (.int 0)) (mOp dPow (mPure (.int 2)) (mPure (.int 31)))) (mPure (.int 1))) (mCons (mTup (mCons (mPure (.int 1)) (mPure []))) (mPure [])))) (mPure [])))))))))) (mPure [])))))
def F__law_no_layout : M D := mFn 1 m__law_no_layout
abbrev s__law_base_of : Stmt := top 35
abbrev N__law_base_of : List Str := ["_law_taken_here", "_law_many", "_law_hint", "_law_found", "_law_lap", "_law_start", "_law_cells"]
theorem sc__law_base_of : FnScope ["_law_taken_here", "_law_many", "_law_hint", "_law_found", "_law_lap", "_law_start", "_law_cells"] ["_law_taken_here", "_law_many", "_law_hint"] (defScope s__law_base_of) := ⟨rfl, rfl, rfl, by decide +kernel, rfl, by decide +kernel, by decide +kernel⟩
theorem b__law_base_of : BindsN "_law_base_of" (defArgs s__law_base_of) ["_law_taken_here", "_law_many", "_law_hint"] := fun _ _ _ _ _ _ _ _ _ us hl => match us, hl with | [_, _, _], _ => rfl
abbrev m__law_base_of : MS := (sSeq (sAsg (mVar 2) (gNameD 3))
  (sSeq (sFor (mRange1 (mCons (mPure (.int 1100)) (mPure []))) (gNameD 4) (sSeq (sIf (mCmp dEq (mFz (mLc [5, 6] (mItems (mVar 0)) (gTupD (gConsD (gNameD 5) (gConsD (gNameD 6) gNilD))) (mAnd (mCmp dLe (mVar 5) (mOp dAdd (mVar 3) (mVar 1))) (mCmp dLe (mVar 3) (mOp dAdd (mVar 5) (mVar 6)))) (mPure (.int 1)))) (mFz (mLstX (mPure [])))) (fun ρ => .bk ρ) sNx)
  (sAsg (mOp dAdd (mVar 3) (mPure (.int 1))) (gNameD 3))))
  (sRet (mVar 3))))
def F__law_base_of : M D := mFn 4 m__law_base_of
abbrev s__law_is_bad_part : Stmt := top 36
abbrev N__law_is_bad_part : List Str := ["_law_work", "_law_kind_here", "_law_part_here", "_law_caught_here", "_law_told", "_law_is_kind"]
theorem sc__law_is_bad_part : FnScope ["_law_work", "_law_kind_here", "_law_part_here", "_law_caught_here", "_law_told", "_law_is_kind"] ["_law_work", "_law_kind_here", "_law_part_here"] (defScope s__law_is_bad_part) := ⟨rfl, rfl, rfl, by decide +kernel, rfl, by decide +kernel, by decide +kernel⟩
theorem b__law_is_bad_part : BindsN "_law_is_bad_part" (defArgs s__law_is_bad_part) ["_law_work", "_law_kind_here", "_law_part_here"] := fun _ _ _ _ _ _ _ _ _ us hl => match us, hl with | [_, _, _], _ => rfl
def m__law_is_bad_part : MS := (sSeq (sIf (mCmp dIn (mVar 1) (mFz (mLstX (mCons (mPure (.str "tree")) (mCons (mPure (.str "now")) (mPure [])))))) (sSeq (sAsg (mAndV (mIsC ["BadTree"] ["BadLayout", "BadMoment", "BadNumber", "NotNow", "WrongError"] (mVar 3)) (mBl (mCmp dEq (mCall gReprF (mCons (mFldN ["BadTree"] "at" (mVar 3)) (mPure []))) (mCall gReprF (mCons (mVar 2) (mPure [])))))) (gNameD 4))
  (sRet (mIte (mCmp dEq (mVar 1) (mPure (.str "tree"))) (mVar 4) (mAndV (mIsC ["NotNow"] ["BadLayout", "BadMoment", "BadNumber", "BadTree", "WrongError"] (mVar 3)) (mBl (mCmp dEq (mCall gReprF (mCons (mFldN ["NotNow"] "why" (mVar 3)) (mPure []))) (mCall gReprF (mCons (mVar 2) (mPure []))))))))) sNx)
  (sSeq (sAsg (mIte (mCmp dEq (mVar 1) (mPure (.str "number"))) (mIsC ["BadNumber"] ["BadLayout", "BadMoment", "BadTree", "NotNow", "WrongError"] (mVar 3)) (mIte (mCmp dEq (mVar 1) (mPure (.str "layout"))) (mIsC ["BadLayout"] ["BadMoment", "BadNumber", "BadTree", "NotNow", "WrongError"] (mVar 3)) (mIsC ["BadMoment"] ["BadLayout", "BadNumber", "BadTree", "NotNow", "WrongError"] (mVar 3)))) (gNameD 5))
  (sRet (mAndV (mVar 5) (mBl (mCmp dEq (mCall gReprF (mCons (mFldN ["BadLayout", "BadMoment", "BadNumber"] "part" (mVar 3)) (mPure []))) (mCall gReprF (mCons (mVar 2) (mPure [])))))))))
structure RC__law_is_bad_part (P : Program) (w : World) (K : PySem.W.Frag) (mg : Str → Option Value) (base : Heap) : Prop where
  ok : True
abbrev s__law_taken : Stmt := top 37
abbrev N__law_taken : List Str := ["_law_draw", "_law_found", "_law_end_here", "_law_lap", "_law_start", "_law_many"]
theorem sc__law_taken : FnScope ["_law_draw", "_law_found", "_law_end_here", "_law_lap", "_law_start", "_law_many"] ["_law_draw"] (defScope s__law_taken) := ⟨rfl, rfl, rfl, by decide +kernel, rfl, by decide +kernel, by decide +kernel⟩
theorem b__law_taken : BindsN "_law_taken" (defArgs s__law_taken) ["_law_draw"] := fun _ _ _ _ _ _ _ _ _ us hl => match us, hl with | [_], _ => rfl
abbrev m__law_taken : MS := (sSeq (sPar [1, 2] (mConsX (mLstX (mPure [])) (mConsD (mCallB 0 2 F__law_take (mCons (mPure (.int 4)) (mPure []))) (mPure []))))
  (sSeq (sFor (mRange1 (mCons (mCallB 0 2 F__law_take (mCons (mPure (.int 12)) (mPure []))) (mPure []))) (gNameD 3) (sSeq (sPar [4, 5] (mConsD (mOp dAdd (mOp dAdd (mVar 2) (mPure (.int 1))) (mCallB 0 2 F__law_pick (mCons (mFz (mLstX (mCons (mPure (.int 0)) (mCons (mPure (.int 0)) (mCons (mPure (.int 1)) (mCons (mPure (.int 2)) (mCons (mCallB 0 2 F__law_take (mCons (mPure (.int 20)) (mPure []))) (mPure [])))))))) (mPure [])))) (mConsD (mOp dAdd (mPure (.int 1)) (mCallB 0 2 F__law_take (mCons (mPure (.int 16)) (mPure [])))) (mPure []))))
  (sSeq (sAppend 1 (mTup (mCons (mVar 4) (mCons (mVar 5) (mPure [])))))
  (sAsg (mOp dAdd (mVar 4) (mVar 5)) (gNameD 2)))))
  (sRet (mCallB 0 2 F__law_shuffled (mCons (mVar 1) (mPure []))))))
def F__law_taken : M D := mFn 5 m__law_taken
abbrev s__law_placed_right : Stmt := top 38
abbrev N__law_placed_right : List Str := ["_law_draw", "_law_rows_here", "_law_there", "_law_start", "_law_many"]
theorem sc__law_placed_right : FnScope ["_law_draw", "_law_rows_here", "_law_there", "_law_start", "_law_many"] ["_law_draw"] (defScope s__law_placed_right) := ⟨rfl, rfl, rfl, by decide +kernel, rfl, by decide +kernel, by decide +kernel⟩
theorem b__law_placed_right : BindsN "_law_placed_right" (defArgs s__law_placed_right) ["_law_draw"] := fun _ _ _ _ _ _ _ _ _ us hl => match us, hl with | [_], _ => rfl
abbrev m__law_placed_right : MS := (sSeq (sPar [1, 2] (mConsD (mCallB 0 1 F__law_taken (mPure [])) (mConsX (mLstX (mPure [])) (mPure []))))
  (sSeq (sFor (mItems (mVar 1)) (gTupD (gConsD (gNameD 3) (gConsD (gNameD 4) gNilD))) (sSeq (sIf (mCmp dNe (mCallL 3 F_least_base [.v 2, .v 4, .v 3]) (mVar 3)) (sRet (mPure (.bl false))) sNx)
  (sAppend 2 (mTup (mCons (mVar 3) (mCons (mVar 4) (mPure [])))))))
  (sRet (mPure (.bl true)))))
def F__law_placed_right : M D := mFn 4 m__law_placed_right
abbrev s__law_refused : Stmt := top 39
abbrev N__law_refused : List Str := ["_law_draw", "_law_taken_here", "_law_told", "_law_bad", "_law_wrong"]
theorem sc__law_refused : FnScope ["_law_draw", "_law_taken_here", "_law_told", "_law_bad", "_law_wrong"] ["_law_draw", "_law_taken_here"] (defScope s__law_refused) := ⟨rfl, rfl, rfl, by decide +kernel, rfl, by decide +kernel, by decide +kernel⟩
theorem b__law_refused : BindsN "_law_refused" (defArgs s__law_refused) ["_law_draw", "_law_taken_here"] := fun _ _ _ _ _ _ _ _ _ us hl => match us, hl with | [_, _], _ => rfl
abbrev m__law_refused : MS := (sSeq (sAsg (mCallB 0 2 F__law_pick (mCons (mFz (mLstX (mCons (mPure .non) (mCons (mPure (.int 5)) (mCons (mFz (mLstX (mCons (mTup (mCons (mPure (.int 0)) (mCons (mPure (.int 1)) (mPure [])))) (mPure [])))) (mCons (mFz (mLstX (mCons (mTup (mCons (mPure (.int 1)) (mCons (mPure (.int 0)) (mPure [])))) (mPure [])))) (mCons (mFz (mLstX (mCons (mTup (mCons (mPure (.int 1)) (mCons (mPure (.int 17)) (mPure [])))) (mPure [])))) (mCons (mFz (mLstX (mCons (mTup (mCons (mPure (.int 1)) (mPure []))) (mPure [])))) (mCons (mFz (mLstX (mCons (mFz (mLstX (mCons (mPure (.int 1)) (mCons (mPure (.int 1)) (mPure []))))) (mPure [])))) (mCons (mFz (mLstX (mCons (mTup (mCons (mPure (.int 1)) (mCons (mPure (.bl true)) (mPure [])))) (mPure [])))) (mCons (mFz (mLstX (mCons (mTup (mCons (mPure (.int 1)) (mCons (mPure (.int 3)) (mPure [])))) (mCons (mTup (mCons (mPure (.int 4)) (mCons (mPure (.int 1)) (mPure [])))) (mPure []))))) (mCons (mFz (mLstX (mCons (mTup (mCons (mPure (.int 4)) (mCons (mPure (.int 1)) (mPure [])))) (mCons (mTup (mCons (mPure (.int 1)) (mCons (mPure (.int 3)) (mPure [])))) (mPure []))))) (mCons (mFz (mLstX (mCons (mPure .non) (mPure [])))) (mCons (mFz mDct0) (mPure []))))))))))))))) (mPure []))) (gNameD 3))
  (sSeq (sSetX 2 (mLstX (mCons (mRelay 3 3 3 m__law_is_bad_part (mCaught ["BadLayout", "BadMoment", "BadNumber", "BadTree", "NotNow", "WrongError"] (mCallF 3 F_least_base (mCons (mVar 3) (mCons (mPure (.int 0)) (mCons (mPure (.int 0)) (mPure [])))))) (mCons (mPure (.str "layout")) (mCons (mPure (.str "taken")) (mPure [])))) (mPure []))))
  (sSeq (sFor (mItems (mFz (mLstX (mCons (mPure (.int 0)) (mCons (mPure (.int 17)) (mCons (mPure .non) (mCons (mPure (.bl true)) (mCons (mPure (.int (-1))) (mCons (mPure (.str "1")) (mPure [])))))))))) (gNameD 4) (sAppend 2 (mRelay 3 3 3 m__law_is_bad_part (mCaught ["BadLayout", "BadMoment", "BadNumber", "BadTree", "NotNow", "WrongError"] (mCallF 3 F_least_base (mCons (mVar 1) (mCons (mVar 4) (mCons (mPure (.int 0)) (mPure [])))))) (mCons (mPure (.str "number")) (mCons (mPure (.str "many")) (mPure []))))))
  (sSeq (sFor (mItems (mFz (mLstX (mCons (mPure (.int 0)) (mCons (mPure .non) (mCons (mPure (.bl true)) (mCons (mPure (.int (-5))) (mCons (mPure (.str "1")) (mCons (mTup (mCons (mPure (.int 1)) (mPure []))) (mPure [])))))))))) (gNameD 4) (sAppend 2 (mRelay 3 3 3 m__law_is_bad_part (mCaught ["BadLayout", "BadMoment", "BadNumber", "BadTree", "NotNow", "WrongError"] (mCallF 3 F_least_base (mCons (mVar 1) (mCons (mPure (.int 1)) (mCons (mVar 4) (mPure [])))))) (mCons (mPure (.str "number")) (mCons (mPure (.str "hint")) (mPure []))))))
  (sRet (mBl (mCmp dNotIn (mPure (.bl false)) (mVar 2))))))))
def F__law_refused : M D := mFn 3 m__law_refused
abbrev s_law : Stmt := top 40
abbrev N_law : List Str := ["_law_script", "_law_draw", "_law_turn", "_law_layout_here", "_law_fill_here", "_law_hints_here", "_law_due", "_law_thing", "_law_last", "_law_taken_here", "_law_many", "_law_hint"]
theorem sc_law : FnScope ["_law_script", "_law_draw", "_law_turn", "_law_layout_here", "_law_fill_here", "_law_hints_here", "_law_due", "_law_thing", "_law_last", "_law_taken_here", "_law_many", "_law_hint"] ["_law_script"] (defScope s_law) := ⟨rfl, rfl, rfl, by decide +kernel, rfl, by decide +kernel, by decide +kernel⟩
theorem b_law : BindsN "law" (defArgs s_law) ["_law_script"] := fun _ _ _ _ _ _ _ _ _ us hl => match us, hl with | [_], _ => rfl
abbrev m_law : MS := (sSeq (sSetX 1 (mCallX 1 mBegun (mCons (mVar 0) (mPure []))))
  (sSeq (sFor (mRange1 (mCons (mOp dAdd (mPure (.int 2)) (mCall gMin2 (mCons (mCall gLen (mCons (mVar 0) (mPure []))) (mCons (mPure (.int 6)) (mPure []))))) (mPure []))) (gNameD 2) (sSeq (sAsg (mCallB 1 1 F__law_layout (mPure [])) (gNameD 3))
  (sSeq (sIf (mOr (mCmp dIsN (mCallF 1 F_is_layout (mCons (mVar 3) (mPure []))) (mPure (.bl true))) (mCmp dIsN (mCallK 1 0 1 [0] F_is_layout (mPure []) (mCons (mCallB 1 1 F__law_no_layout (mPure [])) (mPure []))) (mPure (.bl false)))) (sRet (mPure (.bl false))) sNx)
  (sSeq (sAsg (mVar 3) (gTupD (gConsD (gNameD 4) (gConsD (gNameD 5) gNilD))))
  (sSeq (sFor (mItems (mFz (mLstX (mCons (mTup (mCons (mPure (.bl true)) (mCons (mTup (mCons (mOp dSub (mOp dPow (mPure (.int 2)) (mPure (.int 31))) (mPure (.int 1))) (mCons (mVar 5) (mPure [])))) (mPure [])))) (mCons (mTup (mCons (mPure (.bl false)) (mCons (mTup (mCons (mOp dPow (mPure (.int 2)) (mPure (.int 31))) (mCons (mVar 5) (mPure [])))) (mPure [])))) (mCons (mTup (mCons (mPure (.bl true)) (mCons (mTup (mCons (mOp dSub (mPure (.int 0)) (mOp dPow (mPure (.int 2)) (mPure (.int 31)))) (mCons (mVar 5) (mPure [])))) (mPure [])))) (mCons (mTup (mCons (mPure (.bl false)) (mCons (mFz (mLstX (mCons (mVar 4) (mCons (mVar 5) (mPure []))))) (mPure [])))) (mPure [])))))))) (gTupD (gConsD (gNameD 6) (gConsD (gNameD 7) gNilD))) (sIf (mNot (mTru (mCallF 2 F__law_is_truth (mCons (mCallF 1 F_is_layout (mCons (mVar 7) (mPure []))) (mCons (mVar 6) (mPure [])))))) (sRet (mPure (.bl false))) sNx))
  (sSeq (sFor (mItems (mFz (mLstX (mCons (mTup (mCons (mPure (.bl true)) (mCons (mOp dPow (mPure (.int 2)) (mPure (.int 20))) (mPure [])))) (mCons (mTup (mCons (mPure (.bl false)) (mCons (mOp dAdd (mOp dPow (mPure (.int 2)) (mPure (.int 20))) (mPure (.int 1))) (mPure [])))) (mCons (mTup (mCons (mPure (.bl true)) (mCons (mPure (.int 1)) (mPure [])))) (mCons (mTup (mCons (mPure (.bl false)) (mCons (mPure (.int 0)) (mPure [])))) (mCons (mTup (mCons (mPure (.bl false)) (mCons (mPure .non) (mPure [])))) (mCons (mTup (mCons (mPure (.bl false)) (mCons (mPure (.bl true)) (mPure [])))) (mPure [])))))))))) (gTupD (gConsD (gNameD 6) (gConsD (gNameD 8) gNilD))) (sIf (mNot (mTru (mCallF 2 F__law_is_truth (mCons (mCallF 1 F_is_layout (mCons (mTup (mCons (mVar 4) (mCons (mOp dAdd (mSlice (mVar 5) mNoP (mPart (mPure (.int 399)))) (mTup (mCons (mVar 8) (mPure [])))) (mPure [])))) (mPure []))) (mCons (mVar 6) (mPure [])))))) (sRet (mPure (.bl false))) sNx))
  (sSeq (sAsg (mCallB 1 1 F__law_taken (mPure [])) (gNameD 9))
  (sSeq (sAsg (mOp dAdd (mPure (.int 1)) (mCallB 1 2 F__law_take (mCons (mPure (.int 16)) (mPure [])))) (gNameD 10))
  (sSeq (sFor (mItems (mFz (mLstX (mCons (mPure (.int 1)) (mCons (mOp dAdd (mPure (.int 1)) (mCallB 1 2 F__law_take (mCons (mPure (.int 60)) (mPure [])))) (mCons (mOp dAdd (mOp dPow (mPure (.int 2)) (mPure (.int 20))) (mCallB 1 2 F__law_take (mCons (mPure (.int 9)) (mPure [])))) (mPure []))))))) (gNameD 11) (sSeq (sAsg (mCallF 3 F__law_base_of (mCons (mVar 9) (mCons (mVar 10) (mCons (mVar 11) (mPure []))))) (gNameD 6))
  (sIf (mOr (mCmp dNe (mCall gRepr (mCons (mCallF 3 F_least_base (mCons (mVar 9) (mCons (mVar 10) (mCons (mVar 11) (mPure []))))) (mPure []))) (mCall gRepr (mCons (mVar 6) (mPure [])))) (mCmp dNe (mCallK 3 0 3 [2, 1, 0] F_least_base (mPure []) (mCons (mVar 11) (mCons (mVar 10) (mCons (mCall gTuple (mCons (mVar 9) (mPure []))) (mPure []))))) (mVar 6))) (sRet (mPure (.bl false))) sNx)))
  (sIf (mOr (mNot (mTru (mCallB 1 1 F__law_placed_right (mPure [])))) (mNot (mTru (mCallB 1 2 F__law_refused (mCons (mVar 9) (mPure [])))))) (sRet (mPure (.bl false))) sNx))))))))))
  (sRet (mPure (.bl true)))))
def F_law : M D := mFn 11 m_law
theorem bk_is_layout_0 : BindsK "is_layout" (defArgs s_is_layout) ["thing"] 0 ["thing"] [0] := fun _ _ _ _ _ _ _ _ _ us ws l1 l2 => match us, ws, l1, l2 with | [], [_], _, _ => rfl
theorem bk_least_base_2_1_0 : BindsK "least_base" (defArgs s_least_base) ["taken", "many", "hint"] 0 ["hint", "many", "taken"] [2, 1, 0] := fun _ _ _ _ _ _ _ _ _ us ws l1 l2 => match us, ws, l1, l2 with | [], [_, _, _], _, _ => rfl
structure Tx (P : Program) (K : PySem.W.Frag) (mg : Str → Option Value) : Prop where
  b_abs : mg "abs" = none
  b_all : mg "all" = none
  b_bool : mg "bool" = none
  b_int : mg "int" = none
  b_isinstance : mg "isinstance" = none
  b_len : mg "len" = none
  b_list : mg "list" = none
  b_min : mg "min" = none
  b_range : mg "range" = none
  b_repr : mg "repr" = none
  b_sorted : mg "sorted" = none
  b_super : mg "super" = none
  b_tuple : mg "tuple" = none
  b_zip : mg "zip" = none
  i_MOST_INT : ∃ t, mg "MOST_INT" = some (.int (2147483647) t)
  i_LEAST_INT : ∃ t, mg "LEAST_INT" = some (.int (-2147483648) t)
  i_MOST_HINT : ∃ t, mg "MOST_HINT" = some (.int (1048576) t)
  i_MOST_HINTS : ∃ t, mg "MOST_HINTS" = some (.int (400) t)
  i_MOST_CELLS : ∃ t, mg "MOST_CELLS" = some (.int (16) t)
  e_BadLayout : ErrTxt P K mg e_BadLayout.cls e_BadLayout.arg e_BadLayout.fld e_BadLayout.msg e_BadLayout.j e_BadLayout.sc (ga K "BadLayout") (ma K (ga K "BadLayout") "__init__")
  e_BadNumber : ErrTxt P K mg e_BadNumber.cls e_BadNumber.arg e_BadNumber.fld e_BadNumber.msg e_BadNumber.j e_BadNumber.sc (ga K "BadNumber") (ma K (ga K "BadNumber") "__init__")
  c_BadTree : IsC K mg (ga K "BadTree") ["BadTree"] ["BadLayout", "BadMoment", "BadNumber", "NotNow", "WrongError"]
  g_BadTree : mg "BadTree" = some (.ref (ga K "BadTree"))
  c_NotNow : IsC K mg (ga K "NotNow") ["NotNow"] ["BadLayout", "BadMoment", "BadNumber", "BadTree", "WrongError"]
  g_NotNow : mg "NotNow" = some (.ref (ga K "NotNow"))
  c_BadNumber : IsC K mg (ga K "BadNumber") ["BadNumber"] ["BadLayout", "BadMoment", "BadTree", "NotNow", "WrongError"]
  g_BadNumber : mg "BadNumber" = some (.ref (ga K "BadNumber"))
  c_BadLayout : IsC K mg (ga K "BadLayout") ["BadLayout"] ["BadMoment", "BadNumber", "BadTree", "NotNow", "WrongError"]
  g_BadLayout : mg "BadLayout" = some (.ref (ga K "BadLayout"))
  c_BadMoment : IsC K mg (ga K "BadMoment") ["BadMoment"] ["BadLayout", "BadNumber", "BadTree", "NotNow", "WrongError"]
  g_BadMoment : mg "BadMoment" = some (.ref (ga K "BadMoment"))
  f_at : FldC K mg "at" ["BadTree"]
  f_why : FldC K mg "why" ["NotNow"]
  f_part : FldC K mg "part" ["BadLayout", "BadMoment", "BadNumber"]
  cat : mg "WrongError" = some (.ref (ga K "WrongError")) ∧ ∀ n ∈ (["BadLayout", "BadMoment", "BadNumber", "BadTree", "NotNow", "WrongError"] : List Str), ∃ C, mg n = some (.ref C) ∧ PySem.W.exmOne K (.ref C) (.ref (ga K "WrongError")) = some true
theorem ok_is_number {P : Program} {w : World} {K : PySem.W.Frag} {mg : Str → Option Value} {base : Heap} (T : Tx P K mg)  {f : Addr} {fd : FuncData} (F : FunD K "is_number" "is_number" (defArgs s_is_number) (defBody s_is_number) (defScope s_is_number) [] [] f fd) (hg : mg "is_number" = some (.ref f)) : Cal P w K mg base "is_number" (defArgs s_is_number) 1 ["thing"] F_is_number :=
  cal_mk F hg sc_is_number (fun cdv A outer s H E _ hr => (ds_one (ds_ret (de_and (de_isi T.b_isinstance T.b_int (by decide +kernel) (de_var 0)) (de_one (de_not (de_isi T.b_isinstance T.b_bool (by decide +kernel) (de_var 0))))))))
theorem ok_is_between {P : Program} {w : World} {K : PySem.W.Frag} {mg : Str → Option Value} {base : Heap} (T : Tx P K mg) (C_is_number : Cal P w K mg base "is_number" (defArgs s_is_number) 1 ["thing"] F_is_number) {f : Addr} {fd : FuncData} (F : FunD K "is_between" "is_between" (defArgs s_is_between) (defBody s_is_between) (defScope s_is_between) [] [] f fd) (hg : mg "is_between" = some (.ref f)) : Cal P w K mg base "is_between" (defArgs s_is_between) 2 ["thing", "low", "high"] F_is_between :=
  cal_mk F hg sc_is_between (fun cdv A outer s H E _ hr => (ds_one (ds_ret (de_and (dc 1 C_is_number b_is_number hr (takes_of rfl rfl rfl rfl) (da_cons (de_var 0) da_nil)) (de_one (dch o_le o_le (de_var 1) (de_var 0) (de_var 2)))))))
theorem ok_is_list {P : Program} {w : World} {K : PySem.W.Frag} {mg : Str → Option Value} {base : Heap} (T : Tx P K mg)  {f : Addr} {fd : FuncData} (F : FunD K "is_list" "is_list" (defArgs s_is_list) (defBody s_is_list) (defScope s_is_list) [] [] f fd) (hg : mg "is_list" = some (.ref f)) : Cal P w K mg base "is_list" (defArgs s_is_list) 1 ["thing"] F_is_list :=
  cal_mk F hg sc_is_list (fun cdv A outer s H E _ hr => (ds_one (ds_ret (de_isi2 T.b_isinstance T.b_list (by decide +kernel) T.b_tuple (by decide +kernel) (de_var 0)))))
theorem ok_is_tuple {P : Program} {w : World} {K : PySem.W.Frag} {mg : Str → Option Value} {base : Heap} (T : Tx P K mg)  {f : Addr} {fd : FuncData} (F : FunD K "is_tuple" "is_tuple" (defArgs s_is_tuple) (defBody s_is_tuple) (defScope s_is_tuple) [] [] f fd) (hg : mg "is_tuple" = some (.ref f)) : Cal P w K mg base "is_tuple" (defArgs s_is_tuple) 1 ["thing", "size"] F_is_tuple :=
  cal_mk F hg sc_is_tuple (fun cdv A outer s H E _ hr => (ds_one (ds_ret (de_and (de_isi T.b_isinstance T.b_tuple (by decide +kernel) (de_var 0)) (de_one (de_cmp (o_eq (uR hr)) (de_callB c_len T.b_len (by decide +kernel) (da_cons (de_var 0) da_nil)) (de_var 1)))))))
theorem ok_is_int {P : Program} {w : World} {K : PySem.W.Frag} {mg : Str → Option Value} {base : Heap} (T : Tx P K mg) (C_is_between : Cal P w K mg base "is_between" (defArgs s_is_between) 2 ["thing", "low", "high"] F_is_between) {f : Addr} {fd : FuncData} (F : FunD K "is_int" "is_int" (defArgs s_is_int) (defBody s_is_int) (defScope s_is_int) [] [] f fd) (hg : mg "is_int" = some (.ref f)) : Cal P w K mg base "is_int" (defArgs s_is_int) 3 ["thing"] F_is_int :=
  cal_mk F hg sc_is_int (fun cdv A outer s H E _ hr => (ds_one (ds_ret (dc 2 C_is_between b_is_between hr (takes_of rfl rfl rfl rfl) (da_cons (de_var 0) (da_cons (de_gint T.i_LEAST_INT) (da_cons (de_gint T.i_MOST_INT) da_nil)))))))
theorem ok_is_layout {P : Program} {w : World} {K : PySem.W.Frag} {mg : Str → Option Value} {base : Heap} (T : Tx P K mg) (C_is_between : Cal P w K mg base "is_between" (defArgs s_is_between) 2 ["thing", "low", "high"] F_is_between) (C_is_tuple : Cal P w K mg base "is_tuple" (defArgs s_is_tuple) 1 ["thing", "size"] F_is_tuple) (C_is_int : Cal P w K mg base "is_int" (defArgs s_is_int) 3 ["thing"] F_is_int) {f : Addr} {fd : FuncData} (F : FunD K "is_layout" "is_layout" (defArgs s_is_layout) (defBody s_is_layout) (defScope s_is_layout) [] [] f fd) (hg : mg "is_layout" = some (.ref f)) : Cal P w K mg base "is_layout" (defArgs s_is_layout) 4 ["thing"] F_is_layout :=
  cal_mk F hg sc_is_layout (fun cdv A outer s H E _ hr => (ds_cons (ds_if (dt_w (dw_or (dt_not (dt_tru (dc 1 C_is_tuple b_is_tuple hr (takes_of rfl rfl rfl rfl) (da_cons (de_var 0) (da_cons de_int da_nil))))) (dw_or (dt_not (dt_tru (dc 3 C_is_int b_is_int hr (takes_of rfl rfl rfl rfl) (da_cons (de_ix (de_var 0) de_int) da_nil)))) (dw_or1 (dt_not (dt_tru (de_isi T.b_isinstance T.b_tuple (by decide +kernel) (de_ix (de_var 0) de_int)))))))) (ds_one (ds_ret de_bl)) ds_nil)
      (ds_one (ds_ret (de_and (de_cmp o_le (de_callB c_len T.b_len (by decide +kernel) (da_cons (de_ix (de_var 0) de_int) da_nil)) (de_gint T.i_MOST_HINTS)) (de_one (de_callB (c_all rfl) T.b_all (by decide +kernel) (da_cons (de_fz (dx_lc [("item", 1)] rfl sc_is_layout.nd (di_seq (de_ix (de_var 0) de_int)) (blk_of (N := N_is_layout) (sc := defScope s_is_layout) (by decide +kernel)) (by decide) (fun s H C cl fp => (dg_name 1 sc_is_layout.nd)) (fun s H C cl fp => dts_nil) (fun s H C cl fp => (dc 2 C_is_between b_is_between hr LamX.takes0 (da_cons (de_var 1) (da_cons de_int (da_cons (de_gint T.i_MOST_HINT) da_nil))))))) da_nil))))))))
theorem ok_free_base {P : Program} {w : World} {K : PySem.W.Frag} {mg : Str → Option Value} {base : Heap} (T : Tx P K mg)  {f : Addr} {fd : FuncData} (F : FunD K "free_base" "free_base" (defArgs s_free_base) (defBody s_free_base) (defScope s_free_base) [] [] f fd) (hg : mg "free_base" = some (.ref f)) : Cal P w K mg base "free_base" (defArgs s_free_base) 1 ["taken", "many", "hint"] F_free_base :=
  cal_mk F hg sc_free_base (fun cdv A outer s H E _ hr => (ds_cons (ds_asg (de_var 2) (dg_name 3 sc_free_base.nd))
      (ds_cons (ds_for (passes_of rfl) rfl (di_seq (de_callB (c_sorted (uR hr)) T.b_sorted (by decide +kernel) (da_cons (de_var 0) da_nil))) (dg_tup rfl (dgs_cons (dg_name 4 sc_free_base.nd) (dgs_cons (dg_name 5 sc_free_base.nd) dgs_nil)) (gn_cons (gn_cons gn_nil))) (ds_one (ds_if (dt_w (dw_and (dt_cmp o_le (de_var 4) (de_op o_add (de_var 3) (de_var 1))) (dw_and1 (dt_cmp o_le (de_var 3) (de_op o_add (de_var 4) (de_var 5)))))) (ds_one (ds_asg (de_op o_add (de_op o_add (de_var 4) (de_var 5)) de_int) (dg_name 3 sc_free_base.nd))) ds_nil)))
      (ds_one (ds_ret (de_var 3))))))
theorem ok_is_taken {P : Program} {w : World} {K : PySem.W.Frag} {mg : Str → Option Value} {base : Heap} (T : Tx P K mg) (C_is_between : Cal P w K mg base "is_between" (defArgs s_is_between) 2 ["thing", "low", "high"] F_is_between) (C_is_list : Cal P w K mg base "is_list" (defArgs s_is_list) 1 ["thing"] F_is_list) (C_is_tuple : Cal P w K mg base "is_tuple" (defArgs s_is_tuple) 1 ["thing", "size"] F_is_tuple) {f : Addr} {fd : FuncData} (F : FunD K "is_taken" "is_taken" (defArgs s_is_taken) (defBody s_is_taken) (defScope s_is_taken) [] [] f fd) (hg : mg "is_taken" = some (.ref f)) : Cal P w K mg base "is_taken" (defArgs s_is_taken) 3 ["thing"] F_is_taken :=
  cal_mk F hg sc_is_taken (fun cdv A outer s H E _ hr => (ds_cons (ds_if (dt_not (dt_tru (dc 1 C_is_list b_is_list hr (takes_of rfl rfl rfl rfl) (da_cons (de_var 0) da_nil)))) (ds_one (ds_ret de_bl)) ds_nil)
      (ds_cons (ds_for (passes_of rfl) rfl (di_seq (de_var 0)) (dg_name 1 sc_is_taken.nd) (ds_one (ds_if (dt_w (dw_or (dt_not (dt_tru (dc 1 C_is_tuple b_is_tuple hr (takes_of rfl rfl rfl rfl) (da_cons (de_var 1) (da_cons de_int da_nil))))) (dw_or (dt_not (dt_tru (dc 2 C_is_between b_is_between hr (takes_of rfl rfl rfl rfl) (da_cons (de_ix (de_var 1) de_int) (da_cons de_int (da_cons (de_ix (de_var 1) de_int) da_nil)))))) (dw_or1 (dt_not (dt_tru (dc 2 C_is_between b_is_between hr (takes_of rfl rfl rfl rfl) (da_cons (de_ix (de_var 1) de_int) (da_cons de_int (da_cons (de_gint T.i_MOST_CELLS) da_nil)))))))))) (ds_one (ds_ret de_bl)) ds_nil)))
      (ds_cons (ds_asg (de_callB (c_sorted (uR hr)) T.b_sorted (by decide +kernel) (da_cons (de_var 0) da_nil)) (dg_name 2 sc_is_taken.nd))
      (ds_one (ds_ret (de_callB (c_all rfl) T.b_all (by decide +kernel) (da_cons (de_fz (dx_lc [("one", 3), ("other", 4)] rfl sc_is_taken.nd (di_zip T.b_zip (da_cons (de_var 2) (da_cons (de_slice (de_var 2) (dp_some de_int) dp_none) da_nil))) (blk_of (N := N_is_taken) (sc := defScope s_is_taken) (by decide +kernel)) (by decide) (fun s H C cl fp => (dg_tup rfl (dgs_cons (dg_name 3 sc_is_taken.nd) (dgs_cons (dg_name 4 sc_is_taken.nd) dgs_nil)) (gn_cons (gn_cons gn_nil)))) (fun s H C cl fp => dts_nil) (fun s H C cl fp => (de_cmp o_lt (de_op o_add (de_ix (de_var 3) de_int) (de_ix (de_var 3) de_int)) (de_ix (de_var 4) de_int))))) da_nil))))))))
theorem ok_least_base {P : Program} {w : World} {K : PySem.W.Frag} {mg : Str → Option Value} {base : Heap} (T : Tx P K mg) (C_is_between : Cal P w K mg base "is_between" (defArgs s_is_between) 2 ["thing", "low", "high"] F_is_between) (C_free_base : Cal P w K mg base "free_base" (defArgs s_free_base) 1 ["taken", "many", "hint"] F_free_base) (C_is_taken : Cal P w K mg base "is_taken" (defArgs s_is_taken) 3 ["thing"] F_is_taken) {f : Addr} {fd : FuncData} (F : FunD K "least_base" "least_base" (defArgs s_least_base) (defBody s_least_base) (defScope s_least_base) [] [] f fd) (hg : mg "least_base" = some (.ref f)) : Cal P w K mg base "least_base" (defArgs s_least_base) 4 ["taken", "many", "hint"] F_least_base :=
  cal_mk F hg sc_least_base (fun cdv A outer s H E _ hr => (ds_cons (ds_if (dt_not (dt_tru (dc 3 C_is_taken b_is_taken hr (takes_of rfl rfl rfl rfl) (da_cons (de_var 0) da_nil)))) (ds_one (ds_raise rfl (takes_of rfl rfl rfl rfl) (dm_err T.e_BadLayout hr de_str))) ds_nil)
      (ds_cons (ds_if (dt_not (dt_tru (dc 2 C_is_between b_is_between hr (takes_of rfl rfl rfl rfl) (da_cons (de_var 1) (da_cons de_int (da_cons (de_gint T.i_MOST_CELLS) da_nil)))))) (ds_one (ds_raise rfl (takes_of rfl rfl rfl rfl) (dm_err T.e_BadNumber hr de_str))) ds_nil)
      (ds_cons (ds_if (dt_not (dt_tru (dc 2 C_is_between b_is_between hr (takes_of rfl rfl rfl rfl) (da_cons (de_var 2) (da_cons de_int (da_cons (de_var 2) da_nil)))))) (ds_one (ds_raise rfl (takes_of rfl rfl rfl rfl) (dm_err T.e_BadNumber hr de_str))) ds_nil)
      (ds_one (ds_ret (dc 1 C_free_base b_free_base hr (takes_of rfl rfl rfl rfl) (da_cons (de_var 0) (da_cons (de_var 1) (da_cons (de_var 2) da_nil))))))))))
theorem ok__law_begun {P : Program} {w : World} {K : PySem.W.Frag} {mg : Str → Option Value} {base : Heap} (T : Tx P K mg) {f : Addr} {fd : FuncData} (F : FunD K "_law_begun" "_law_begun" (defArgs s__law_begun) (defBody s__law_begun) (defScope s__law_begun) [] [] f fd) (hg : mg "_law_begun" = some (.ref f)) : CalX P w K mg base "_law_begun" (defArgs s__law_begun) 1 ["_law_script"] mBegun :=
  begun_mk (k := 0) (m1 := m1_begun) (m2 := m2_begun) F hg sc__law_begun rfl rfl rfl (Or.inl rfl) (by decide) (by decide)
    (fun cdv A outer s H E hr => (ds_setLc 1 [("_law_grain", 2)] rfl sc__law_begun.nd (di_seq (de_var 0)) (blk_of (N := N__law_begun) (sc := defScope s__law_begun) (by decide +kernel)) (by decide) (fun s H C cl fp => (dg_name 2 sc__law_begun.nd)) (fun s H C cl fp => (dts_one (dt_cmp o_ge (de_callB c_abs T.b_abs (by decide +kernel) (da_cons (de_var 2) da_nil)) (de_op o_pow de_int de_int)))) (fun s H C cl fp => (de_op o_sub (de_callB c_abs T.b_abs (by decide +kernel) (da_cons (de_var 2) da_nil)) (de_op o_pow de_int de_int))))) (fun cdv A outer s H E hr => (dx_lc [("_law_grain", 2)] rfl sc__law_begun.nd (di_seq (de_var 0)) (blk_of (N := N__law_begun) (sc := defScope s__law_begun) (by decide +kernel)) (by decide) (fun s H C cl fp => (dg_name 2 sc__law_begun.nd)) (fun s H C cl fp => dts_nil) (fun s H C cl fp => (de_callB c_abs T.b_abs (by decide +kernel) (da_cons (de_var 2) da_nil))))) begun_v1 begun_v2
theorem ok__law_mixed {P : Program} {w : World} {K : PySem.W.Frag} {mg : Str → Option Value} {base : Heap} (T : Tx P K mg)  {f : Addr} {fd : FuncData} (F : FunD K "_law_mixed" "_law_mixed" (defArgs s__law_mixed) (defBody s__law_mixed) (defScope s__law_mixed) [] [] f fd) (hg : mg "_law_mixed" = some (.ref f)) : Cal P w K mg base "_law_mixed" (defArgs s__law_mixed) 1 ["_law_draw"] F__law_mixed :=
  cal_mk F hg sc__law_mixed (fun cdv A outer s H E _ hr => (ds_cons (ds_turn 0 (u1 hr) (de_op o_add (de_turn 0 (u1 hr)) de_int))
      (ds_cons (ds_par2 1 2 (dxs_d (de_callTy c_int T.b_int (by decide +kernel) (da_cons (de_turn 0 (u1 hr)) da_nil)) (dxs_d de_int dxs_nil)) rfl sc__law_mixed.nd)
      (ds_cons (ds_for (passes_of rfl) rfl (di_seq (de_fz (dx_lst (da_cons de_int (da_cons de_int (da_cons de_int da_nil)))))) (dg_name 3 sc__law_mixed.nd) (ds_cons (ds_asg (de_op o_mod (de_op o_add (de_op o_mul (de_var 1) de_int) (de_op o_div (de_var 3) de_int)) (de_var 3)) (dg_name 4 sc__law_mixed.nd))
      (ds_cons (ds_for (passes_of rfl) rfl (di_seq (de_cells 0 (u1 hr))) (dg_name 5 sc__law_mixed.nd) (ds_one (ds_asg (de_op o_mod (de_op o_add (de_op o_mul (de_var 4) de_int) (de_callTy c_int T.b_int (by decide +kernel) (da_cons (de_var 5) da_nil))) (de_var 3)) (dg_name 4 sc__law_mixed.nd))))
      (ds_one (ds_asg (de_op o_add (de_op o_mul (de_var 2) de_int) (de_op o_mod (de_op o_pow (de_var 4) de_int) (de_var 3))) (dg_name 2 sc__law_mixed.nd))))))
      (ds_one (ds_ret (de_var 2)))))))
theorem ok__law_take {P : Program} {w : World} {K : PySem.W.Frag} {mg : Str → Option Value} {base : Heap} (T : Tx P K mg) (C__law_mixed : Cal P w K mg base "_law_mixed" (defArgs s__law_mixed) 1 ["_law_draw"] F__law_mixed) {f : Addr} {fd : FuncData} (F : FunD K "_law_take" "_law_take" (defArgs s__law_take) (defBody s__law_take) (defScope s__law_take) [] [] f fd) (hg : mg "_law_take" = some (.ref f)) : Cal P w K mg base "_law_take" (defArgs s__law_take) 2 ["_law_draw", "_law_amount"] F__law_take :=
  cal_mk F hg sc__law_take (fun cdv A outer s H E _ hr => (ds_cons (ds_if (dt_cmp (o_eq (uR hr)) (de_rest 0 (u1 hr)) de_int) (ds_one (ds_rest 0 (u1 hr) (de_ife (dt_largeNe 0 (uR hr)) (de_largePop 0 (u1 hr)) (dcB 0 1 C__law_mixed b__law_mixed hr (takes_of rfl rfl rfl rfl) da_nil)))) ds_nil)
      (ds_cons (ds_asg (de_op o_mod (de_callTy c_int T.b_int (by decide +kernel) (da_cons (de_rest 0 (u1 hr)) da_nil)) (de_var 1)) (dg_name 2 sc__law_take.nd))
      (ds_cons (ds_rest 0 (u1 hr) (de_op o_div (de_callTy c_int T.b_int (by decide +kernel) (da_cons (de_rest 0 (u1 hr)) da_nil)) (de_var 1)))
      (ds_one (ds_ret (de_var 2)))))))
theorem ok__law_pick {P : Program} {w : World} {K : PySem.W.Frag} {mg : Str → Option Value} {base : Heap} (T : Tx P K mg) (C__law_take : Cal P w K mg base "_law_take" (defArgs s__law_take) 2 ["_law_draw", "_law_amount"] F__law_take) {f : Addr} {fd : FuncData} (F : FunD K "_law_pick" "_law_pick" (defArgs s__law_pick) (defBody s__law_pick) (defScope s__law_pick) [] [] f fd) (hg : mg "_law_pick" = some (.ref f)) : Cal P w K mg base "_law_pick" (defArgs s__law_pick) 3 ["_law_draw", "_law_some"] F__law_pick :=
  cal_mk F hg sc__law_pick (fun cdv A outer s H E _ hr => (ds_one (ds_ret (de_ix (de_var 1) (dcB 0 2 C__law_take b__law_take hr (takes_of rfl rfl rfl rfl) (da_cons (de_callB c_len T.b_len (by decide +kernel) (da_cons (de_var 1) da_nil)) da_nil))))))
theorem ok__law_shuffled {P : Program} {w : World} {K : PySem.W.Frag} {mg : Str → Option Value} {base : Heap} (T : Tx P K mg) (C__law_take : Cal P w K mg base "_law_take" (defArgs s__law_take) 2 ["_law_draw", "_law_amount"] F__law_take) {f : Addr} {fd : FuncData} (F : FunD K "_law_shuffled" "_law_shuffled" (defArgs s__law_shuffled) (defBody s__law_shuffled) (defScope s__law_shuffled) [] [] f fd) (hg : mg "_law_shuffled" = some (.ref f)) : Cal P w K mg base "_law_shuffled" (defArgs s__law_shuffled) 3 ["_law_draw", "_law_some"] F__law_shuffled :=
  cal_mk F hg sc__law_shuffled (fun cdv A outer s H E _ hr => (ds_cons (ds_par2 2 3 (dxs_x (dx_list T.b_list (da_cons (de_var 1) da_nil)) (dxs_x (dx_lst da_nil) dxs_nil)) rfl sc__law_shuffled.nd)
      (ds_cons (ds_while (fuelL 2) (passes_of rfl) (dt_ownNe 2 (uR hr)) (ds_one (ds_append 3 (de_ownPop 2 (dcB 0 2 C__law_take b__law_take hr (takes_of rfl rfl rfl rfl) (da_cons (de_ownLen 2 T.b_len) da_nil))))))
      (ds_one (ds_ret (de_var 3))))))
theorem ok__law_is_truth {P : Program} {w : World} {K : PySem.W.Frag} {mg : Str → Option Value} {base : Heap} (T : Tx P K mg)  {f : Addr} {fd : FuncData} (F : FunD K "_law_is_truth" "_law_is_truth" (defArgs s__law_is_truth) (defBody s__law_is_truth) (defScope s__law_is_truth) [] [] f fd) (hg : mg "_law_is_truth" = some (.ref f)) : Cal P w K mg base "_law_is_truth" (defArgs s__law_is_truth) 1 ["_law_found", "_law_due"] F__law_is_truth :=
  cal_mk F hg sc__law_is_truth (fun cdv A outer s H E _ hr => (ds_one (ds_ret (de_ife (dt_tru (de_var 1)) (de_cmp o_is (de_var 0) de_bl) (de_cmp o_is (de_var 0) de_bl)))))
theorem ok__law_size {P : Program} {w : World} {K : PySem.W.Frag} {mg : Str → Option Value} {base : Heap} (T : Tx P K mg) (C__law_take : Cal P w K mg base "_law_take" (defArgs s__law_take) 2 ["_law_draw", "_law_amount"] F__law_take) (C__law_pick : Cal P w K mg base "_law_pick" (defArgs s__law_pick) 3 ["_law_draw", "_law_some"] F__law_pick) {f : Addr} {fd : FuncData} (F : FunD K "_law_size" "_law_size" (defArgs s__law_size) (defBody s__law_size) (defScope s__law_size) [] [] f fd) (hg : mg "_law_size" = some (.ref f)) : Cal P w K mg base "_law_size" (defArgs s__law_size) 4 ["_law_draw"] F__law_size :=
  cal_mk F hg sc__law_size (fun cdv A outer s H E _ hr => (ds_cons (ds_if (dt_cmp o_gt (dcB 0 2 C__law_take b__law_take hr (takes_of rfl rfl rfl rfl) (da_cons de_int da_nil)) de_int) (ds_one (ds_ret (de_op o_sub (dcB 0 2 C__law_take b__law_take hr (takes_of rfl rfl rfl rfl) (da_cons de_int da_nil)) de_int))) ds_nil)
      (ds_one (ds_ret (dcB 0 3 C__law_pick b__law_pick hr (takes_of rfl rfl rfl rfl) (da_cons (de_fz (dx_lst (da_cons (de_op o_sub (de_op o_pow de_int de_int) de_int) (da_cons (de_op o_sub de_int (de_op o_pow de_int de_int)) (da_cons de_int (da_cons (de_op o_sub de_int de_int) (da_cons (de_op o_sub (dcB 0 2 C__law_take b__law_take hr (takes_of rfl rfl rfl rfl) (da_cons (de_op o_pow de_int de_int) da_nil)) (de_op o_pow de_int de_int)) da_nil))))))) da_nil))))))
theorem ok__law_layout {P : Program} {w : World} {K : PySem.W.Frag} {mg : Str → Option Value} {base : Heap} (T : Tx P K mg) (C__law_take : Cal P w K mg base "_law_take" (defArgs s__law_take) 2 ["_law_draw", "_law_amount"] F__law_take) (C__law_pick : Cal P w K mg base "_law_pick" (defArgs s__law_pick) 3 ["_law_draw", "_law_some"] F__law_pick) (C__law_size : Cal P w K mg base "_law_size" (defArgs s__law_size) 4 ["_law_draw"] F__law_size) {f : Addr} {fd : FuncData} (F : FunD K "_law_layout" "_law_layout" (defArgs s__law_layout) (defBody s__law_layout) (defScope s__law_layout) [] [] f fd) (hg : mg "_law_layout" = some (.ref f)) : Cal P w K mg base "_law_layout" (defArgs s__law_layout) 5 ["_law_draw"] F__law_layout :=
  cal_mk F hg sc__law_layout (fun cdv A outer s H E _ hr => (ds_cons (ds_par2 1 2 (dxs_d (dcB 0 2 C__law_take b__law_take hr (takes_of rfl rfl rfl rfl) (da_cons de_int da_nil)) (dxs_x (dx_lst da_nil) dxs_nil)) rfl sc__law_layout.nd)
      (ds_cons (ds_asg (dcB 0 3 C__law_pick b__law_pick hr (takes_of rfl rfl rfl rfl) (da_cons (de_fz (dx_lst (da_cons de_int (da_cons de_int (da_cons de_int (da_cons de_int (da_cons de_int (da_cons de_int (da_cons de_int da_nil))))))))) da_nil)) (dg_name 3 sc__law_layout.nd))
      (ds_cons (ds_for (passes_of rfl) rfl (dr1 T.b_range (da_cons (de_ife (dt_cmp o_gt (de_var 1) de_int) (de_var 3) de_int) da_nil)) (dg_name 4 sc__law_layout.nd) (ds_cons (ds_asg (dcB 0 3 C__law_pick b__law_pick hr (takes_of rfl rfl rfl rfl) (da_cons (de_fz (dx_lst (da_cons de_int (da_cons de_int (da_cons (de_op o_add de_int (dcB 0 2 C__law_take b__law_take hr (takes_of rfl rfl rfl rfl) (da_cons de_int da_nil))) (da_cons (de_op o_add de_int (dcB 0 2 C__law_take b__law_take hr (takes_of rfl rfl rfl rfl) (da_cons de_int da_nil))) (da_cons (de_op o_sub (de_op o_pow de_int de_int) (dcB 0 2 C__law_take b__law_take hr (takes_of rfl rfl rfl rfl) (da_cons de_int da_nil))) da_nil))))))) da_nil)) (dg_name 5 sc__law_layout.nd))
      (ds_one (ds_append 2 (de_ife (dt_cmp (o_eq (uR hr)) (de_var 1) de_int) de_int (de_var 5))))))
      (ds_one (ds_ret (de_tup (da_cons (dcB 0 4 C__law_size b__law_size hr (takes_of rfl rfl rfl rfl) da_nil) (da_cons (de_callTy c_tuple T.b_tuple (by decide +kernel) (da_cons (de_var 2) da_nil)) da_nil)))))))))
theorem ok__law_no_layout {P : Program} {w : World} {K : PySem.W.Frag} {mg : Str → Option Value} {base : Heap} (T : Tx P K mg) (C__law_pick : Cal P w K mg base "_law_pick" (defArgs s__law_pick) 3 ["_law_draw", "_law_some"] F__law_pick) {f : Addr} {fd : FuncData} (F : FunD K "_law_no_layout" "_law_no_layout" (defArgs s__law_no_layout) (defBody s__law_no_layout) (defScope s__law_no_layout) [] [] f fd) (hg : mg "_law_no_layout" = some (.ref f)) : Cal P w K mg base "_law_no_layout" (defArgs s__law_no_layout) 4 ["_law_draw"] F__law_no_layout :=
  cal_mk F hg sc__law_no_layout (fun cdv A outer s H E _ hr => (ds_cons (ds_asg (de_fz (dx_lst (da_cons de_non (da_cons de_int (da_cons (de_tup da_nil) (da_cons (de_tup (da_cons de_int da_nil)) (da_cons (de_fz (dx_lst (da_cons de_int (da_cons (de_tup da_nil) da_nil)))) (da_cons (de_tup (da_cons de_int (da_cons (de_fz (dx_lst da_nil)) da_nil))) (da_cons (de_tup (da_cons de_int (da_cons (de_tup da_nil) (da_cons de_int da_nil)))) (da_cons (de_tup (da_cons de_bl (da_cons (de_tup da_nil) da_nil))) (da_cons (de_tup (da_cons (de_op o_pow de_int de_int) (da_cons (de_tup da_nil) da_nil))) (da_cons (de_tup (da_cons de_non (da_cons (de_tup da_nil) da_nil))) (da_cons (de_tup (da_cons de_int (da_cons (de_tup (da_cons de_int da_nil)) da_nil))) (da_cons (de_tup (da_cons de_int (da_cons (de_tup (da_cons de_int (da_cons (de_op o_add (de_op o_pow de_int de_int) de_int) da_nil))) da_nil))) da_nil)))))))))))))) (dg_name 1 sc__law_no_layout.nd))
      (ds_one (ds_ret (dcB 0 3 C__law_pick b__law_pick hr (takes_of rfl rfl rfl rfl) (da_cons (de_op o_add (de_var 1) (de_fz (dx_lst (da_cons (de_tup (da_cons de_int (da_cons (de_tup (da_cons de_int (da_cons de_non da_nil))) da_nil))) (da_cons (de_tup (da_cons de_int (da_cons (de_tup (da_cons de_bl da_nil)) da_nil))) (da_cons (de_tup (da_cons de_int (da_cons (de_op o_rep (de_tup (da_cons de_int da_nil)) de_int) da_nil))) (da_cons (de_tup (da_cons de_str (da_cons (de_tup da_nil) da_nil))) (da_cons (de_tup (da_cons de_int (da_cons de_int da_nil))) (da_cons (de_tup (da_cons (de_op o_sub (de_op o_sub de_int (de_op o_pow de_int de_int)) de_int) (da_cons (de_tup (da_cons de_int da_nil)) da_nil))) da_nil))))))))) da_nil))))))
theorem ok__law_base_of {P : Program} {w : World} {K : PySem.W.Frag} {mg : Str → Option Value} {base : Heap} (T : Tx P K mg)  {f : Addr} {fd : FuncData} (F : FunD K "_law_base_of" "_law_base_of" (defArgs s__law_base_of) (defBody s__law_base_of) (defScope s__law_base_of) [] [] f fd) (hg : mg "_law_base_of" = some (.ref f)) : Cal P w K mg base "_law_base_of" (defArgs s__law_base_of) 1 ["_law_taken_here", "_law_many", "_law_hint"] F__law_base_of :=
  cal_mk F hg sc__law_base_of (fun cdv A outer s H E _ hr => (ds_cons (ds_asg (de_var 2) (dg_name 3 sc__law_base_of.nd))
      (ds_cons (ds_for (passes_of rfl) rfl (dr1 T.b_range (da_cons de_int da_nil)) (dg_name 4 sc__law_base_of.nd) (ds_cons (ds_if (dt_cmp (o_eq (uR hr)) (de_fz (dx_lc [("_law_start", 5), ("_law_cells", 6)] rfl sc__law_base_of.nd (di_seq (de_var 0)) (blk_of (N := N__law_base_of) (sc := defScope s__law_base_of) (by decide +kernel)) (by decide) (fun s H C cl fp => (dg_tup rfl (dgs_cons (dg_name 5 sc__law_base_of.nd) (dgs_cons (dg_name 6 sc__law_base_of.nd) dgs_nil)) (gn_cons (gn_cons gn_nil)))) (fun s H C cl fp => (dts_one (dt_w (dw_and (dt_cmp o_le (de_var 5) (de_op o_add (de_var 3) (de_var 1))) (dw_and1 (dt_cmp o_le (de_var 3) (de_op o_add (de_var 5) (de_var 6)))))))) (fun s H C cl fp => de_int))) (de_fz (dx_lst da_nil))) (ds_one ds_break) ds_nil)
      (ds_one (ds_asg (de_op o_add (de_var 3) de_int) (dg_name 3 sc__law_base_of.nd)))))
      (ds_one (ds_ret (de_var 3))))))
theorem rs__law_is_bad_part {P : Program} {w : World} {K : PySem.W.Frag} {mg : Str → Option Value} {base : Heap} (T : Tx P K mg) {k : Nat} {A : Around} {outer : List PySem.Env} {s : Shared} {H : Hp} {E : XK} {g2 : Addr} {cd : Value} (RC : RC__law_is_bad_part P w K mg base) (hr : Room (k + 2) (A.deeper (envOfC "_law_is_bad_part" (defScope s__law_is_bad_part) s.heap.objs.size g2 cd))) :
    DSs (cxOf (L2.CX P w) P w K mg base N__law_is_bad_part "_law_is_bad_part" (defScope s__law_is_bad_part) g2 cd A outer s H E) (WEx E) (defBody s__law_is_bad_part).tail m__law_is_bad_part :=
  have ⟨_⟩ := RC
  (ds_cons (ds_if (dt_cmp o_in (de_var 1) (de_fz (dx_lst (da_cons de_str (da_cons de_str da_nil))))) (ds_cons (ds_asg (de_and (de_isC T.c_BadTree T.g_BadTree T.b_isinstance (de_var 3)) (de_one (de_cmp (o_eq (uR hr)) (de_callB c_reprF T.b_repr (by decide +kernel) (da_cons (de_fld T.f_at (de_var 3)) da_nil)) (de_callB c_reprF T.b_repr (by decide +kernel) (da_cons (de_var 2) da_nil))))) (dg_name 4 sc__law_is_bad_part.nd))
      (ds_one (ds_ret (de_ife (dt_cmp (o_eq (uR hr)) (de_var 1) de_str) (de_var 4) (de_and (de_isC T.c_NotNow T.g_NotNow T.b_isinstance (de_var 3)) (de_one (de_cmp (o_eq (uR hr)) (de_callB c_reprF T.b_repr (by decide +kernel) (da_cons (de_fld T.f_why (de_var 3)) da_nil)) (de_callB c_reprF T.b_repr (by decide +kernel) (da_cons (de_var 2) da_nil))))))))) ds_nil)
      (ds_cons (ds_asg (de_ife (dt_cmp (o_eq (uR hr)) (de_var 1) de_str) (de_isC T.c_BadNumber T.g_BadNumber T.b_isinstance (de_var 3)) (de_ife (dt_cmp (o_eq (uR hr)) (de_var 1) de_str) (de_isC T.c_BadLayout T.g_BadLayout T.b_isinstance (de_var 3)) (de_isC T.c_BadMoment T.g_BadMoment T.b_isinstance (de_var 3)))) (dg_name 5 sc__law_is_bad_part.nd))
      (ds_one (ds_ret (de_and (de_var 5) (de_one (de_cmp (o_eq (uR hr)) (de_callB c_reprF T.b_repr (by decide +kernel) (da_cons (de_fld T.f_part (de_var 3)) da_nil)) (de_callB c_reprF T.b_repr (by decide +kernel) (da_cons (de_var 2) da_nil)))))))))
theorem ok__law_taken {P : Program} {w : World} {K : PySem.W.Frag} {mg : Str → Option Value} {base : Heap} (T : Tx P K mg) (C__law_take : Cal P w K mg base "_law_take" (defArgs s__law_take) 2 ["_law_draw", "_law_amount"] F__law_take) (C__law_pick : Cal P w K mg base "_law_pick" (defArgs s__law_pick) 3 ["_law_draw", "_law_some"] F__law_pick) (C__law_shuffled : Cal P w K mg base "_law_shuffled" (defArgs s__law_shuffled) 3 ["_law_draw", "_law_some"] F__law_shuffled) {f : Addr} {fd : FuncData} (F : FunD K "_law_taken" "_law_taken" (defArgs s__law_taken) (defBody s__law_taken) (defScope s__law_taken) [] [] f fd) (hg : mg "_law_taken" = some (.ref f)) : Cal P w K mg base "_law_taken" (defArgs s__law_taken) 4 ["_law_draw"] F__law_taken :=
  cal_mk F hg sc__law_taken (fun cdv A outer s H E _ hr => (ds_cons (ds_par2 1 2 (dxs_x (dx_lst da_nil) (dxs_d (dcB 0 2 C__law_take b__law_take hr (takes_of rfl rfl rfl rfl) (da_cons de_int da_nil)) dxs_nil)) rfl sc__law_taken.nd)
      (ds_cons (ds_for (passes_of rfl) rfl (dr1 T.b_range (da_cons (dcB 0 2 C__law_take b__law_take hr (takes_of rfl rfl rfl rfl) (da_cons de_int da_nil)) da_nil)) (dg_name 3 sc__law_taken.nd) (ds_cons (ds_par2 4 5 (dxs_d (de_op o_add (de_op o_add (de_var 2) de_int) (dcB 0 3 C__law_pick b__law_pick hr (takes_of rfl rfl rfl rfl) (da_cons (de_fz (dx_lst (da_cons de_int (da_cons de_int (da_cons de_int (da_cons de_int (da_cons (dcB 0 2 C__law_take b__law_take hr (takes_of rfl rfl rfl rfl) (da_cons de_int da_nil)) da_nil))))))) da_nil))) (dxs_d (de_op o_add de_int (dcB 0 2 C__law_take b__law_take hr (takes_of rfl rfl rfl rfl) (da_cons de_int da_nil))) dxs_nil)) rfl sc__law_taken.nd)
      (ds_cons (ds_append 1 (de_tup (da_cons (de_var 4) (da_cons (de_var 5) da_nil))))
      (ds_one (ds_asg (de_op o_add (de_var 4) (de_var 5)) (dg_name 2 sc__law_taken.nd))))))
      (ds_one (ds_ret (dcB 0 3 C__law_shuffled b__law_shuffled hr (takes_of rfl rfl rfl rfl) (da_cons (de_var 1) da_nil)))))))
theorem ok__law_placed_right {P : Program} {w : World} {K : PySem.W.Frag} {mg : Str → Option Value} {base : Heap} (T : Tx P K mg) (C_least_base : Cal P w K mg base "least_base" (defArgs s_least_base) 4 ["taken", "many", "hint"] F_least_base) (C__law_taken : Cal P w K mg base "_law_taken" (defArgs s__law_taken) 4 ["_law_draw"] F__law_taken) {f : Addr} {fd : FuncData} (F : FunD K "_law_placed_right" "_law_placed_right" (defArgs s__law_placed_right) (defBody s__law_placed_right) (defScope s__law_placed_right) [] [] f fd) (hg : mg "_law_placed_right" = some (.ref f)) : Cal P w K mg base "_law_placed_right" (defArgs s__law_placed_right) 5 ["_law_draw"] F__law_placed_right :=
  cal_mk F hg sc__law_placed_right (fun cdv A outer s H E _ hr => (ds_cons (ds_par2 1 2 (dxs_d (dcB 0 4 C__law_taken b__law_taken hr (takes_of rfl rfl rfl rfl) da_nil) (dxs_x (dx_lst da_nil) dxs_nil)) rfl sc__law_placed_right.nd)
      (ds_cons (ds_for (passes_of rfl) rfl (di_seq (de_var 1)) (dg_tup rfl (dgs_cons (dg_name 3 sc__law_placed_right.nd) (dgs_cons (dg_name 4 sc__law_placed_right.nd) dgs_nil)) (gn_cons (gn_cons gn_nil))) (ds_cons (ds_if (dt_cmp (o_ne (uR hr)) (dcL 4 C_least_base b_least_base hr (takes_of rfl rfl rfl rfl) (dl_var 2 (dl_var 4 (dl_var 3 dl_nil)))) (de_var 3)) (ds_one (ds_ret de_bl)) ds_nil)
      (ds_one (ds_append 2 (de_tup (da_cons (de_var 3) (da_cons (de_var 4) da_nil)))))))
      (ds_one (ds_ret de_bl)))))
theorem ok__law_refused {P : Program} {w : World} {K : PySem.W.Frag} {mg : Str → Option Value} {base : Heap} (T : Tx P K mg) (C_least_base : Cal P w K mg base "least_base" (defArgs s_least_base) 4 ["taken", "many", "hint"] F_least_base) (C__law_pick : Cal P w K mg base "_law_pick" (defArgs s__law_pick) 3 ["_law_draw", "_law_some"] F__law_pick) {fc : Addr} {fdc : FuncData} (FD__law_caught : FunD K "_law_caught" "_law_caught" (defArgs s__law_caught) (defBody s__law_caught) (defScope s__law_caught) [] [] fc fdc) (l__law_caught : mg "_law_caught" = some (.ref fc)) {f__law_is_bad_part : Addr} {fd__law_is_bad_part : FuncData} (FD__law_is_bad_part : FunD K "_law_is_bad_part" "_law_is_bad_part" (defArgs s__law_is_bad_part) (defBody s__law_is_bad_part) (defScope s__law_is_bad_part) [] [] f__law_is_bad_part fd__law_is_bad_part) (l__law_is_bad_part : mg "_law_is_bad_part" = some (.ref f__law_is_bad_part)) (RC__law_is_bad_part : RC__law_is_bad_part P w K mg base) (hTc : Tc.T = [((He.cT K ("_law_refused", none)).2, ("_law_refused.<locals>.<lambda>" : Str))]) (TB : LamX.TabB base mg (He.cT K ("_law_refused", none)).1 (He.cT K ("_law_refused", none)).2) {fd : FuncData} (F : FunD K "_law_refused" "_law_refused" (defArgs s__law_refused) (defBody s__law_refused) (defScope s__law_refused) [] [] (He.fAd K ("_law_refused", none)) fd) (hg : mg "_law_refused" = some (.ref (He.fAd K ("_law_refused", none)))) : Cal P w K mg base "_law_refused" (defArgs s__law_refused) 9 ["_law_draw", "_law_taken_here"] F__law_refused :=
  cal_mkC F hg sc__law_refused (fun A outer s H E hr => (ds_cons (ds_asg (dcB 0 3 C__law_pick b__law_pick hr (takes_of rfl rfl rfl rfl) (da_cons (de_fz (dx_lst (da_cons de_non (da_cons de_int (da_cons (de_fz (dx_lst (da_cons (de_tup (da_cons de_int (da_cons de_int da_nil))) da_nil))) (da_cons (de_fz (dx_lst (da_cons (de_tup (da_cons de_int (da_cons de_int da_nil))) da_nil))) (da_cons (de_fz (dx_lst (da_cons (de_tup (da_cons de_int (da_cons de_int da_nil))) da_nil))) (da_cons (de_fz (dx_lst (da_cons (de_tup (da_cons de_int da_nil)) da_nil))) (da_cons (de_fz (dx_lst (da_cons (de_fz (dx_lst (da_cons de_int (da_cons de_int da_nil)))) da_nil))) (da_cons (de_fz (dx_lst (da_cons (de_tup (da_cons de_int (da_cons de_bl da_nil))) da_nil))) (da_cons (de_fz (dx_lst (da_cons (de_tup (da_cons de_int (da_cons de_int da_nil))) (da_cons (de_tup (da_cons de_int (da_cons de_int da_nil))) da_nil)))) (da_cons (de_fz (dx_lst (da_cons (de_tup (da_cons de_int (da_cons de_int da_nil))) (da_cons (de_tup (da_cons de_int (da_cons de_int da_nil))) da_nil)))) (da_cons (de_fz (dx_lst (da_cons de_non da_nil))) (da_cons (de_fz dx_dct0) da_nil)))))))))))))) da_nil)) (dg_name 3 sc__law_refused.nd))
      (ds_cons (ds_setX 2 (dx_lst (da_cons (de_lamrelay 3 3 FD__law_is_bad_part l__law_is_bad_part (FD__law_is_bad_part.bindsN fun kV doc pm an cdv ct us hl => b__law_is_bad_part _ _ _ kV doc pm an cdv ct us hl) sc__law_is_bad_part rfl FD__law_caught l__law_caught (FD__law_caught.bindsN fun kV doc pm an cdv ct us hl => b__law_caught _ _ _ kV doc pm an cdv ct us hl) sc__law_caught (fun X2 hK hm cdv => caught_givesK hK hm (i := 2) (j := 1) rfl T.cat.1 (by decide) sc__law_caught.nd rfl rfl (by decide) (by decide) rfl rfl (fun f => rfl) (by decide) (by decide) (by decide) (by decide)) T.cat.2 TB rfl (by rw [hTc]; exact List.mem_singleton.mpr rfl) (by rw [hTc]; exact fun p hp _ => by rw [List.mem_singleton.mp hp]; rfl) hr (takes_of rfl rfl rfl rfl) (fun A outer s H E f c' hr => (dc 4 C_least_base b_least_base hr (takes_of rfl rfl rfl rfl) (da_cons (de_var 3) (da_cons de_int (da_cons de_int da_nil))))) (da_cons de_str (da_cons de_str da_nil)) (fun cd A outer s H E hr => rs__law_is_bad_part T RC__law_is_bad_part hr) (L := LamX.lamS_by (sc := defScope s__law_refused) (by decide +kernel))) da_nil)) sc__law_refused.nd)
      (ds_cons (ds_for (passes_of rfl) rfl (di_seq (de_fz (dx_lst (da_cons de_int (da_cons de_int (da_cons de_non (da_cons de_bl (da_cons de_neg (da_cons de_str da_nil))))))))) (dg_name 4 sc__law_refused.nd) (ds_one (ds_append 2 (de_lamrelay 3 3 FD__law_is_bad_part l__law_is_bad_part (FD__law_is_bad_part.bindsN fun kV doc pm an cdv ct us hl => b__law_is_bad_part _ _ _ kV doc pm an cdv ct us hl) sc__law_is_bad_part rfl FD__law_caught l__law_caught (FD__law_caught.bindsN fun kV doc pm an cdv ct us hl => b__law_caught _ _ _ kV doc pm an cdv ct us hl) sc__law_caught (fun X2 hK hm cdv => caught_givesK hK hm (i := 2) (j := 1) rfl T.cat.1 (by decide) sc__law_caught.nd rfl rfl (by decide) (by decide) rfl rfl (fun f => rfl) (by decide) (by decide) (by decide) (by decide)) T.cat.2 TB rfl (by rw [hTc]; exact List.mem_singleton.mpr rfl) (by rw [hTc]; exact fun p hp _ => by rw [List.mem_singleton.mp hp]; rfl) hr (takes_of rfl rfl rfl rfl) (fun A outer s H E f c' hr => (dc 4 C_least_base b_least_base hr (takes_of rfl rfl rfl rfl) (da_cons (de_var 1) (da_cons (de_var 4) (da_cons de_int da_nil))))) (da_cons de_str (da_cons de_str da_nil)) (fun cd A outer s H E hr => rs__law_is_bad_part T RC__law_is_bad_part hr) (L := LamX.lamS_by (sc := defScope s__law_refused) (by decide +kernel))))))
      (ds_cons (ds_for (passes_of rfl) rfl (di_seq (de_fz (dx_lst (da_cons de_int (da_cons de_non (da_cons de_bl (da_cons de_neg (da_cons de_str (da_cons (de_tup (da_cons de_int da_nil)) da_nil))))))))) (dg_name 4 sc__law_refused.nd) (ds_one (ds_append 2 (de_lamrelay 3 3 FD__law_is_bad_part l__law_is_bad_part (FD__law_is_bad_part.bindsN fun kV doc pm an cdv ct us hl => b__law_is_bad_part _ _ _ kV doc pm an cdv ct us hl) sc__law_is_bad_part rfl FD__law_caught l__law_caught (FD__law_caught.bindsN fun kV doc pm an cdv ct us hl => b__law_caught _ _ _ kV doc pm an cdv ct us hl) sc__law_caught (fun X2 hK hm cdv => caught_givesK hK hm (i := 2) (j := 1) rfl T.cat.1 (by decide) sc__law_caught.nd rfl rfl (by decide) (by decide) rfl rfl (fun f => rfl) (by decide) (by decide) (by decide) (by decide)) T.cat.2 TB rfl (by rw [hTc]; exact List.mem_singleton.mpr rfl) (by rw [hTc]; exact fun p hp _ => by rw [List.mem_singleton.mp hp]; rfl) hr (takes_of rfl rfl rfl rfl) (fun A outer s H E f c' hr => (dc 4 C_least_base b_least_base hr (takes_of rfl rfl rfl rfl) (da_cons (de_var 1) (da_cons de_int (da_cons (de_var 4) da_nil))))) (da_cons de_str (da_cons de_str da_nil)) (fun cd A outer s H E hr => rs__law_is_bad_part T RC__law_is_bad_part hr) (L := LamX.lamS_by (sc := defScope s__law_refused) (by decide +kernel))))))
      (ds_one (ds_ret (de_cmp o_notIn de_bl (de_var 2)))))))))
theorem ok_law {P : Program} {w : World} {K : PySem.W.Frag} {mg : Str → Option Value} {base : Heap} (T : Tx P K mg) (C_is_layout : Cal P w K mg base "is_layout" (defArgs s_is_layout) 4 ["thing"] F_is_layout) (C_least_base : Cal P w K mg base "least_base" (defArgs s_least_base) 4 ["taken", "many", "hint"] F_least_base) (C__law_begun : CalX P w K mg base "_law_begun" (defArgs s__law_begun) 1 ["_law_script"] mBegun) (C__law_take : Cal P w K mg base "_law_take" (defArgs s__law_take) 2 ["_law_draw", "_law_amount"] F__law_take) (C__law_is_truth : Cal P w K mg base "_law_is_truth" (defArgs s__law_is_truth) 1 ["_law_found", "_law_due"] F__law_is_truth) (C__law_layout : Cal P w K mg base "_law_layout" (defArgs s__law_layout) 5 ["_law_draw"] F__law_layout) (C__law_no_layout : Cal P w K mg base "_law_no_layout" (defArgs s__law_no_layout) 4 ["_law_draw"] F__law_no_layout) (C__law_base_of : Cal P w K mg base "_law_base_of" (defArgs s__law_base_of) 1 ["_law_taken_here", "_law_many", "_law_hint"] F__law_base_of) (C__law_taken : Cal P w K mg base "_law_taken" (defArgs s__law_taken) 4 ["_law_draw"] F__law_taken) (C__law_placed_right : Cal P w K mg base "_law_placed_right" (defArgs s__law_placed_right) 5 ["_law_draw"] F__law_placed_right) (C__law_refused : Cal P w K mg base "_law_refused" (defArgs s__law_refused) 9 ["_law_draw", "_law_taken_here"] F__law_refused)  {fd : FuncData} (F : FunD K "law" "law" (defArgs s_law) (defBody s_law) (defScope s_law) [] [] (He.fAd K ("law", none)) fd) : FnG P w K mg base (L2.CX P w) 10 (He.fAd K ("law", none)) fd ["_law_script"] (spF K mg 1 F_law) :=
  lawG_mk2 F sc_law (fun A outer s H E hgd hr => (ds_cons (ds_setX 1 (dxc 1 C__law_begun b__law_begun hr (takes_of rfl rfl rfl rfl) (da_cons (de_var 0) da_nil)) sc_law.nd)
      (ds_cons (ds_for (passes_of rfl) rfl (dr1 T.b_range (da_cons (de_op o_add de_int (de_callB (c_min2 rfl) T.b_min (by decide +kernel) (da_cons (de_callB c_len T.b_len (by decide +kernel) (da_cons (de_var 0) da_nil)) (da_cons de_int da_nil)))) da_nil)) (dg_name 2 sc_law.nd) (ds_cons (ds_asg (dcB 1 5 C__law_layout b__law_layout hr (takes_of rfl rfl rfl rfl) da_nil) (dg_name 3 sc_law.nd))
      (ds_cons (ds_if (dt_w (dw_or (dt_cmp o_isN (dc 4 C_is_layout b_is_layout hr (takes_of rfl rfl rfl rfl) (da_cons (de_var 3) da_nil)) de_bl) (dw_or1 (dt_cmp o_isN (dcK0 4 [0] C_is_layout bk_is_layout_0 hr (takes_of rfl rfl rfl rfl) (dk_cons (dcB 1 4 C__law_no_layout b__law_no_layout hr (takes_of rfl rfl rfl rfl) da_nil) dk_nil)) de_bl)))) (ds_one (ds_ret de_bl)) ds_nil)
      (ds_cons (ds_asg (de_var 3) (dg_tup rfl (dgs_cons (dg_name 4 sc_law.nd) (dgs_cons (dg_name 5 sc_law.nd) dgs_nil)) (gn_cons (gn_cons gn_nil))))
      (ds_cons (ds_for (passes_of rfl) rfl (di_seq (de_fz (dx_lst (da_cons (de_tup (da_cons de_bl (da_cons (de_tup (da_cons (de_op o_sub (de_op o_pow de_int de_int) de_int) (da_cons (de_var 5) da_nil))) da_nil))) (da_cons (de_tup (da_cons de_bl (da_cons (de_tup (da_cons (de_op o_pow de_int de_int) (da_cons (de_var 5) da_nil))) da_nil))) (da_cons (de_tup (da_cons de_bl (da_cons (de_tup (da_cons (de_op o_sub de_int (de_op o_pow de_int de_int)) (da_cons (de_var 5) da_nil))) da_nil))) (da_cons (de_tup (da_cons de_bl (da_cons (de_fz (dx_lst (da_cons (de_var 4) (da_cons (de_var 5) da_nil)))) da_nil))) da_nil))))))) (dg_tup rfl (dgs_cons (dg_name 6 sc_law.nd) (dgs_cons (dg_name 7 sc_law.nd) dgs_nil)) (gn_cons (gn_cons gn_nil))) (ds_one (ds_if (dt_not (dt_tru (dc 1 C__law_is_truth b__law_is_truth hr (takes_of rfl rfl rfl rfl) (da_cons (dc 4 C_is_layout b_is_layout hr (takes_of rfl rfl rfl rfl) (da_cons (de_var 7) da_nil)) (da_cons (de_var 6) da_nil))))) (ds_one (ds_ret de_bl)) ds_nil)))
      (ds_cons (ds_for (passes_of rfl) rfl (di_seq (de_fz (dx_lst (da_cons (de_tup (da_cons de_bl (da_cons (de_op o_pow de_int de_int) da_nil))) (da_cons (de_tup (da_cons de_bl (da_cons (de_op o_add (de_op o_pow de_int de_int) de_int) da_nil))) (da_cons (de_tup (da_cons de_bl (da_cons de_int da_nil))) (da_cons (de_tup (da_cons de_bl (da_cons de_int da_nil))) (da_cons (de_tup (da_cons de_bl (da_cons de_non da_nil))) (da_cons (de_tup (da_cons de_bl (da_cons de_bl da_nil))) da_nil))))))))) (dg_tup rfl (dgs_cons (dg_name 6 sc_law.nd) (dgs_cons (dg_name 8 sc_law.nd) dgs_nil)) (gn_cons (gn_cons gn_nil))) (ds_one (ds_if (dt_not (dt_tru (dc 1 C__law_is_truth b__law_is_truth hr (takes_of rfl rfl rfl rfl) (da_cons (dc 4 C_is_layout b_is_layout hr (takes_of rfl rfl rfl rfl) (da_cons (de_tup (da_cons (de_var 4) (da_cons (de_op o_add (de_slice (de_var 5) dp_none (dp_some de_int)) (de_tup (da_cons (de_var 8) da_nil))) da_nil))) da_nil)) (da_cons (de_var 6) da_nil))))) (ds_one (ds_ret de_bl)) ds_nil)))
      (ds_cons (ds_asg (dcB 1 4 C__law_taken b__law_taken hr (takes_of rfl rfl rfl rfl) da_nil) (dg_name 9 sc_law.nd))
      (ds_cons (ds_asg (de_op o_add de_int (dcB 1 2 C__law_take b__law_take hr (takes_of rfl rfl rfl rfl) (da_cons de_int da_nil))) (dg_name 10 sc_law.nd))
      (ds_cons (ds_for (passes_of rfl) rfl (di_seq (de_fz (dx_lst (da_cons de_int (da_cons (de_op o_add de_int (dcB 1 2 C__law_take b__law_take hr (takes_of rfl rfl rfl rfl) (da_cons de_int da_nil))) (da_cons (de_op o_add (de_op o_pow de_int de_int) (dcB 1 2 C__law_take b__law_take hr (takes_of rfl rfl rfl rfl) (da_cons de_int da_nil))) da_nil)))))) (dg_name 11 sc_law.nd) (ds_cons (ds_asg (dc 1 C__law_base_of b__law_base_of hr (takes_of rfl rfl rfl rfl) (da_cons (de_var 9) (da_cons (de_var 10) (da_cons (de_var 11) da_nil)))) (dg_name 6 sc_law.nd))
      (ds_one (ds_if (dt_w (dw_or (dt_cmp (o_ne (uR hr)) (de_callB (c_repr hgd (uR hr)) T.b_repr (by decide +kernel) (da_cons (dc 4 C_least_base b_least_base hr (takes_of rfl rfl rfl rfl) (da_cons (de_var 9) (da_cons (de_var 10) (da_cons (de_var 11) da_nil)))) da_nil)) (de_callB (c_repr hgd (uR hr)) T.b_repr (by decide +kernel) (da_cons (de_var 6) da_nil))) (dw_or1 (dt_cmp (o_ne (uR hr)) (dcK0 4 [2, 1, 0] C_least_base bk_least_base_2_1_0 hr (takes_of rfl rfl rfl rfl) (dk_cons (de_var 11) (dk_cons (de_var 10) (dk_cons (de_callTy c_tuple T.b_tuple (by decide +kernel) (da_cons (de_var 9) da_nil)) dk_nil)))) (de_var 6))))) (ds_one (ds_ret de_bl)) ds_nil))))
      (ds_one (ds_if (dt_w (dw_or (dt_not (dt_tru (dcB 1 5 C__law_placed_right b__law_placed_right hr (takes_of rfl rfl rfl rfl) da_nil))) (dw_or1 (dt_not (dt_tru (dcB 1 9 C__law_refused b__law_refused hr (takes_of rfl rfl rfl rfl) (da_cons (de_var 9) da_nil))))))) (ds_one (ds_ret de_bl)) ds_nil)))))))))))
      (ds_one (ds_ret de_bl)))))
end FL

set_option Elab.async false
set_option linter.all false
set_option maxRecDepth 100000
set_option maxHeartbeats 400000
/-! P24: blocks in a row, in plain lists. -/
namespace FL
open PySem FW
abbrev Bk := Int × Int
def dB (p : Bk) : D := .tup [.int p.1, .int p.2]
def leP (a b : Bk) : Bool := leD (dB a) (dB b)
theorem leP_iff {a b : Bk} : leP a b = true ↔ a.1 < b.1 ∨ (a.1 = b.1 ∧ a.2 ≤ b.2) := by
  obtain ⟨a1, a2⟩ := a
  obtain ⟨b1, b2⟩ := b
  have e : leP (a1, a2) (b1, b2) = !(decide ((1 : Int) < 1) || (!decide ((1 : Int) < 1) && (decide (b1 < a1) || (!decide (a1 < b1) && (decide ((1 : Int) < 1) || (!decide ((1 : Int) < 1) && (decide (b2 < a2) || (!decide (a2 < b2) && (decide ((0 : Int) < 0) || (!decide ((0 : Int) < 0) && false)))))))))) := rfl
  rw [e]
  by_cases h1 : b1 < a1 <;> by_cases h2 : a1 < b1 <;> by_cases h3 : b2 < a2 <;> by_cases h4 : a2 < b2 <;> simp [h1, h2, h3, h4] <;> omega
theorem leP_trans (a b c : Bk) (h : leP a b = true) (h2 : leP b c = true) : leP a c = true := by
  rw [leP_iff] at *; omega
theorem leP_total (a b : Bk) : (leP a b || leP b a) = true := by
  rw [Bool.or_eq_true, leP_iff, leP_iff]; omega
def srt (bs : List Bk) : List Bk := bs.mergeSort leP
theorem srt_map (bs : List Bk) : (bs.map dB).mergeSort leD = (srt bs).map dB := (List.map_mergeSort (r := leP) (s := leD) (f := dB) (l := bs) fun _ _ _ _ => rfl).symm
theorem srt_perm (bs : List Bk) : (srt bs).Perm bs := List.mergeSort_perm bs leP
/-- apart, whichever stands first -/
def Apt (x y : Bk) : Prop := x.1 + x.2 < y.1 ∨ y.1 + y.2 < x.1
structure Sep (bs : List Bk) : Prop where
  apt : bs.Pairwise Apt
  ok : ∀ x ∈ bs, 1 ≤ x.1 ∧ 1 ≤ x.2 ∧ x.2 ≤ 16
theorem Sep.perm {bs cs : List Bk} (h : Sep bs) (p : bs.Perm cs) : Sep cs := ⟨p.pairwise h.apt fun z => z.symm, fun x hx => h.ok x (p.mem_iff.mpr hx)⟩
theorem Sep.srt {bs : List Bk} (h : Sep bs) : (FL.srt bs).Pairwise (fun x y => x.1 + x.2 < y.1) := by
  have h2 := h.perm (srt_perm bs).symm
  have h3 : (FL.srt bs).Pairwise (fun a b => leP a b = true) := List.pairwise_mergeSort leP_trans leP_total bs
  have := h2.apt.and h3
  refine this.imp_of_mem fun {x y} hx hy z => ?_
  obtain ⟨z1, z2⟩ := z
  rw [leP_iff] at z2
  have := h2.ok x hx
  have := h2.ok y hy
  rcases z1 with z1 | z1 <;> omega
/-- the first free place from b on -/
def fb (m : Int) : List Bk → Int → Int
  | [], b => b
  | x :: t, b => fb m t (if x.1 ≤ b + m ∧ b ≤ x.1 + x.2 then x.1 + x.2 + 1 else b)
def Hit (m b : Int) (x : Bk) : Prop := x.1 ≤ b + m ∧ b ≤ x.1 + x.2
instance (m b : Int) (x : Bk) : Decidable (Hit m b x) := inferInstanceAs (Decidable (_ ∧ _))
theorem fb_no {m : Int} : ∀ {S : List Bk} {b : Int}, (∀ x ∈ S, ¬ Hit m b x) → fb m S b = b
  | [], _, _ => rfl
  | x :: t, b, h => by
    have := h x (by simp)
    unfold fb
    rw [if_neg (by exact this)]
    exact fb_no fun y hy => h y (by simp [hy])
theorem fb_ok {m : Int} (hm : 0 ≤ m) : ∀ {S : List Bk} {b : Int}, S.Pairwise (fun x y => x.1 + x.2 < y.1) → (∀ x ∈ S, 1 ≤ x.2) → b ≤ fb m S b ∧ (∀ x ∈ S, ¬ Hit m (fb m S b) x) ∧ ∀ z, b ≤ z → z < fb m S b → ∃ x ∈ S, Hit m z x
  | [], b, _, _ => ⟨Int.le_refl b, by simp, fun z h1 h2 => by simp only [fb] at h2; omega⟩
  | x :: t, b, h, hp => by
    rw [List.pairwise_cons] at h
    obtain ⟨h1, h2⟩ := h
    have hx := hp x (by simp)
    have hp' : ∀ y ∈ t, 1 ≤ y.2 := fun y hy => hp y (by simp [hy])
    unfold fb
    by_cases hh : x.1 ≤ b + m ∧ b ≤ x.1 + x.2
    · rw [if_pos hh]
      obtain ⟨g1, g2, g3⟩ := fb_ok hm (b := x.1 + x.2 + 1) h2 hp'
      refine ⟨by omega, fun y hy => ?_, fun z z1 z2 => ?_⟩
      · rcases List.mem_cons.mp hy with rfl | hy
        · unfold Hit; omega
        · exact g2 y hy
      · by_cases hz : z < x.1 + x.2 + 1
        · exact ⟨x, by simp, by unfold Hit; omega⟩
        · obtain ⟨y, hy, q⟩ := g3 z (by omega) z2
          exact ⟨y, by simp [hy], q⟩
    · rw [if_neg hh]
      by_cases hb : x.1 + x.2 < b
      · obtain ⟨g1, g2, g3⟩ := fb_ok hm (b := b) h2 hp'
        refine ⟨g1, fun y hy => ?_, fun z z1 z2 => ?_⟩
        · rcases List.mem_cons.mp hy with rfl | hy
          · unfold Hit; omega
          · exact g2 y hy
        · obtain ⟨y, hy, q⟩ := g3 z z1 z2
          exact ⟨y, by simp [hy], q⟩
      · have no : ∀ y ∈ t, ¬ Hit m b y := fun y hy => by
          have := h1 y hy
          unfold Hit; omega
        rw [fb_no no]
        refine ⟨Int.le_refl b, fun y hy => ?_, fun z z1 z2 => by omega⟩
        rcases List.mem_cons.mp hy with rfl | hy
        · exact hh
        · exact no y hy
/-- not beyond the hint, or just behind some block -/
theorem fb_le {m : Int} : ∀ {S : List Bk} {b : Int}, fb m S b = b ∨ ∃ x ∈ S, fb m S b = x.1 + x.2 + 1
  | [], _ => .inl rfl
  | x :: t, b => by
    unfold fb
    split
    · rcases fb_le (m := m) (S := t) (b := x.1 + x.2 + 1) with h | ⟨y, hy, h⟩
      · exact .inr ⟨x, by simp, h⟩
      · exact .inr ⟨y, by simp [hy], h⟩
    · rcases fb_le (m := m) (S := t) (b := b) with h | ⟨y, hy, h⟩
      · exact .inl h
      · exact .inr ⟨y, by simp [hy], h⟩
theorem erase_perm {α : Type} : ∀ {l : List α} {i : Nat} {x : α}, l[i]? = some x → (x :: l.eraseIdx i).Perm l
  | [], _, _, h => by simp at h
  | y :: l, 0, x, h => by simp at h; subst h; exact List.Perm.refl _
  | y :: l, i + 1, x, h => by
    have := erase_perm (l := l) (i := i) (x := x) (by simpa using h)
    exact (List.Perm.swap y x _).trans (this.cons y)
theorem erase_map {α β : Type} (f : α → β) : ∀ (l : List α) (i : Nat), (l.map f).eraseIdx i = (l.eraseIdx i).map f
  | [], _ => rfl
  | _ :: _, 0 => rfl
  | y :: l, i + 1 => by simp [erase_map f l i]
end FL

set_option Elab.async false
set_option linter.all false
set_option maxRecDepth 100000
set_option maxHeartbeats 4000000

namespace FL
open PySem PySem.Spec L2 FW
variable [Tc]
theorem w_takeL {j : Nat} {ρ : FW.Env} {ma : M (List D)} {Q : D → FW.Env → Prop} {E : FW.EP} (h : wpOw ρ[j]? (wpE ma ρ (fun ds ρ1 => wpT ds ρ1[j]? fun n io => wpA (0 < n ∧ n < 2 ^ 64) (∀ (z : Int) (y : Dw), 0 ≤ z → z < n → wpN (ρ1.set j (y.sl io)) fun ρ2 => Q (.int z) ρ2)) E)) : wpE (mCallB j 2 F__law_take ma) ρ Q E := w_take h
theorem w_pickL {j : Nat} {ρ : FW.Env} {ma : M (List D)} {Q : D → FW.Env → Prop} {E : FW.EP} (h : wpOw ρ[j]? (wpE ma ρ (fun ds ρ1 => wpP ds ρ1[j]? fun xs io => wpA (xs ≠ [] ∧ xs.length < 2 ^ 64) (wpAll xs fun d => ∀ (y : Dw), wpN (ρ1.set j (y.sl io)) fun ρ2 => Q d ρ2)) E)) : wpE (mCallB j 2 F__law_pick ma) ρ Q E := w_pick h

theorem u_is_number {ρ : FW.Env} {Q : D → FW.Env → Prop} {E : FW.EP} : wpE F_is_number ρ Q E = wpE (mFn 0 m_is_number) ρ Q E := id rfl
theorem u_is_between {ρ : FW.Env} {Q : D → FW.Env → Prop} {E : FW.EP} : wpE F_is_between ρ Q E = wpE (mFn 0 m_is_between) ρ Q E := id rfl
theorem u_is_list {ρ : FW.Env} {Q : D → FW.Env → Prop} {E : FW.EP} : wpE F_is_list ρ Q E = wpE (mFn 0 m_is_list) ρ Q E := id rfl
theorem u_is_tuple {ρ : FW.Env} {Q : D → FW.Env → Prop} {E : FW.EP} : wpE F_is_tuple ρ Q E = wpE (mFn 0 m_is_tuple) ρ Q E := id rfl
theorem u_is_int {ρ : FW.Env} {Q : D → FW.Env → Prop} {E : FW.EP} : wpE F_is_int ρ Q E = wpE (mFn 0 m_is_int) ρ Q E := id rfl
theorem u__law_is_truth {ρ : FW.Env} {Q : D → FW.Env → Prop} {E : FW.EP} : wpE F__law_is_truth ρ Q E = wpE (mFn 0 m__law_is_truth) ρ Q E := id rfl
section
local macro_rules | `(tactic| walk_at "ws") => `(tactic| simp (config := {dsimp := false}) only [↓w_some, ↓w_none, ↓w_oiten, ↓w_omap, ↓w_obind, ↓w_bt, ↓w_bf, ↓w_bF, ↓w_bF2, ↓w_at, ↓w_vd, ↓w_vl, ↓w_vk, ↓w_pure, ↓w_bind, ↓w_opt, ↓w_var, ↓w_cons, ↓w_op, ↓w_cmp, ↓w_bl, ↓w_bif, ↓w_chain, ↓w_chainV, ↓w_tru, ↓w_and, ↓w_or, ↓w_not, ↓w_andV, ↓w_orV, ↓w_ite, ↓w_tup, ↓w_lstX, ↓w_fz, ↓w_call, ↓w_callF, ↓w_callX, ↓w_callK, ↓w_isi, ↓w_isC, ↓w_fldN, ↓w_err1, ↓w_caught, ↓w_range1, ↓w_range2, ↓w_enum, ↓w_items, ↓w_consD, ↓w_lc, ↓w_nx, ↓w_seq, ↓w_expr, ↓w_ret, ↓w_if, ↓w_asg, ↓w_setX, ↓w_for, ↓w_par, ↓w_raise, ↓w_name, ↓w_gtup, ↓w_gcons, ↓w_gnil, t_eq, p_eq, ow_drw, ↓w_fn, ↓w_get2, ↓w_disp, ↓w_dct0, w_N, w_M, pk_some, pick_nil, pick_cons, ↓n_nx, ↓n_rt, ↓n_bk, ↓n_ct, ↓n_er, ↓l_nx, ↓l_rt, ↓l_bk, ↓l_ct, ↓l_er, ↓f_nx, ↓f_rt, ↓f_bk, ↓f_ct, ↓f_er, w_put, dats_nil, dats_cons, wx_nil, wx_dat, wx_un, wx_drw, wx_lst, wu_un, wu_dat, ww_nil, ww_cons, fr_un, fr_dat, fr_nil, fr_cons, bk_nil, bk_cons, io_lst, io_dct, io_dat, io_drw, of_lst, of_dct, of_dat, it_lst, it_rol, it_tup, tr_non, tr_bl, tr_int, tr_lst, tr_tup, a_int, a_lst, a_tup, a_str, s_int, m_int, d_int, r_int, p_int, x_int, q_int, n_int, lt_int, le_int, gt_int, ge_int, len_lst, len_rol, len_tup, int_int, abs_int, min_int, max_int, tuple_lst, tuple_rol, tuple_tup, rg_int, is_nn, ne_same, eq_same, is_nb, is_bn, isn_nn, isn_bn, isi_int_non, isi_int_bl, isi_int_int, isi_int_str, isi_int_lst, isi_int_rol, isi_int_tup, isi_int_dK, isi_bool_non, isi_bool_bl, isi_bool_int, isi_bool_str, isi_bool_lst, isi_bool_rol, isi_bool_tup, isi_bool_dK, isi_str_non, isi_str_bl, isi_str_int, isi_str_str, isi_str_lst, isi_str_rol, isi_str_tup, isi_str_dK, isi_tuple_non, isi_tuple_bl, isi_tuple_int, isi_tuple_str, isi_tuple_lst, isi_tuple_rol, isi_tuple_tup, isi_tuple_dK, isi_list_non, isi_list_bl, isi_list_int, isi_list_str, isi_list_lst, isi_list_rol, isi_list_tup, isi_list_dK, isi_dict_non, isi_dict_bl, isi_dict_int, isi_dict_str, isi_dict_lst, isi_dict_rol, isi_dict_tup, isi_dict_dK, isi_list_tuple_non, isi_list_tuple_bl, isi_list_tuple_int, isi_list_tuple_str, isi_list_tuple_lst, isi_list_tuple_rol, isi_list_tuple_tup, isi_list_tuple_dK, isi_int_str_non, isi_int_str_bl, isi_int_str_int, isi_int_str_str, isi_int_str_lst, isi_int_str_rol, isi_int_str_tup, isi_int_str_dK, is_int_n, is_int_b, isn_int_n, is_str_n, is_str_b, isn_str_n, is_lst_n, is_lst_b, isn_lst_n, is_rol_n, is_rol_b, isn_rol_n, is_tup_n, is_tup_b, isn_tup_n, is_dK_n, is_dK_b, isn_dK_n, List.getElem?_cons_zero, List.getElem?_cons_succ, List.set_cons_zero, List.set_cons_succ, List.length_cons, List.length_nil, List.reduceReplicate, List.cons_append, List.nil_append, List.append_nil, Option.getD_some, Nat.reduceAdd, Nat.reduceSub, Nat.reduceMul, Nat.reduceLT, Nat.reduceLeDiff, Nat.reduceEqDiff, Int.reduceAdd, Int.reduceSub, Int.reduceMul, Int.reduceNeg, Int.reduceLT, Int.reduceLE, Int.reduceEq, Int.reduceNe, Int.reducePow, Int.reduceToNat, Int.reduceMod, Int.reduceDiv, Int.reduceBEq, Int.reduceBNe, eq_self, and_self, and_true, true_and, decide_true, decide_false, Bool.and_self, Bool.true_and, Bool.and_true, Bool.not_true, Bool.not_false, Nat.lt_add_one, Nat.zero_lt_succ, ne_eq, not_true_eq_false, not_false_eq_true, zipK_nil, zipK_cons, dk_yes, os_some, hd_cons, si_drw, sl_io, sl_own, ix_t0, ix_t1, ix_t2, ix_t3, ix_t4, ix_t5, ix_l0, ix_l1, ix_l2, ix_l3, nc, isn_same, is_same, isn_tf, isn_ft, is_tf, is_ft, w_panil, w_pacons, Bool.false_and, Bool.and_false, Bool.or_true, Bool.true_or, Bool.false_or, Bool.or_false, ↓w_append, ↓w_brk, ↓w_cnt, ol_i, lq_dat, lq_lst, lq_dct, ↓w_listX, lx_lst, lx_rol, lx_tup, ↓w_noP, ↓w_part, prt_int, ↓w_slice, FW.sl_lst, FW.sl_rol, FW.sl_tup, ↓w_zip, zz_ll, zz_tt, w_rep, ↓w_ownNe, ↓w_ownEq, ↓w_ownLen, ↓w_ixW, ↓w_ownIx, ↓w_popW, ↓w_ownPop, la_nil, la_v, la_c, ↓w_callL, ↓w_relay, ↓w_consX, ↓u_is_number, ↓u_is_between, ↓u_is_tuple, ↓u_is_int, ↓u_is_list])
local macro_rules | `(tactic| walk_at "wa") => `(tactic| first | omega | (simp only [List.length_map, List.length_append, List.length_cons, List.length_nil, rangeD_len, sizeLine_eq]; omega) | exact ⟨List.cons_ne_nil _ _, by omega⟩ | decide)
local macro_rules | `(tactic| walk_at "w1") => `(tactic| first | with_reducible refine w_takeL ?_ | with_reducible refine w_pickL ?_ | with_reducible refine w_callBi ?_ | with_reducible refine w_begun ⟨by assumption, ?_⟩ | ((with_reducible refine w_isCy ?h ?_); (case h => decide +kernel)) | ((with_reducible refine w_isCn ?h ?h2 ?_); (case h => decide +kernel); (case h2 => decide +kernel)) | ((with_reducible refine w_fldy ?v ?h ?h2 ?_); (case h => decide +kernel); (case h2 => exact rfl)) | ((with_reducible refine wpA_i ?h ?_); (case h => walk_at "wa")) | (with_reducible intro) | walk_at "ws")
local macro_rules | `(tactic| walk_at "wb") => `(tactic| repeat' (first | walk_at "w1" | with_reducible refine wpB_i (fun _ => ?_) (fun _ => ?_)))
local macro_rules | `(tactic| walk_at "wg") => `(tactic| repeat walk_at "w1")
local macro_rules | `(tactic| walk_at "wi") => `(tactic| repeat (first | exact inL_nil | refine inL_cons (by omega) ?_))
local macro_rules | `(tactic| walk_at "bo") => `(tactic| (simp only [D.bl.injEq]; rw [Bool.eq_iff_iff]; simp only [decide_eq_true_eq, decide_eq_false_iff_not, Bool.and_eq_true, Bool.or_eq_true, Bool.false_eq_true, Bool.not_eq_true', Bool.not_eq_false', false_iff, iff_false, true_iff, iff_true] at *; first | omega | (constructor <;> intros <;> omega)))
def okh : D → Bool | .int n => decide (1 ≤ n) && decide (n ≤ 1048576) | _ => false
def hk1 : D → Bool | .int _ => true | .bl _ => true | .non => true | _ => false
theorem btw_e (n lo hi : Int) : F_is_between [.dat (.int n), .dat (.int lo), .dat (.int hi)] = .ok (.bl (decide (lo ≤ n) && decide (n ≤ hi))) [.dat (.int n), .dat (.int lo), .dat (.int hi)] := by
  refine wpE_get ?_
  walk_at "wb"
  all_goals (walk_at "bo")
theorem btw_h (d : D) (h : hk1 d = true) : F_is_between [.dat d, .dat (.int 1), .dat (.int 1048576)] = .ok (.bl (okh d)) [.dat d, .dat (.int 1), .dat (.int 1048576)] := by
  cases d with
  | int n => exact btw_e n 1 1048576
  | bl b => rfl
  | non => rfl
  | _ => cases h
theorem int_e (n : Int) : F_is_int [.dat (.int n)] = .ok (.bl (decide (-2147483648 ≤ n) && decide (n ≤ 2147483647))) [.dat (.int n)] := by
  refine wpE_get ?_
  walk_at "wb"
  all_goals (walk_at "bo")
theorem blsD_map (f : D → Bool) : ∀ hs : List D, blsD (hs.map fun d => .bl (f d)) = some (hs.map f)
  | [] => rfl
  | d :: hs => by
    show (blsD (hs.map fun d => .bl (f d))).map _ = _
    rw [blsD_map f hs] <;> rfl
theorem all_map (f : D → Bool) (hs : List D) : gAll [.lst (hs.map fun d => .bl (f d))] = some (.bl (hs.all f)) := by
  show (blsD _).map _ = _
  rw [blsD_map]
  simp [List.all_map]
theorem eq_n {a b : Int} : dEq (.int a) (.int b) = some (decide (a = b)) := rfl
end
section
local macro_rules | `(tactic| walk_at "ws") => `(tactic| simp (config := {dsimp := false}) only [↓w_some, ↓w_none, ↓w_oiten, ↓w_omap, ↓w_obind, ↓w_bt, ↓w_bf, ↓w_bF, ↓w_bF2, ↓w_at, ↓w_vd, ↓w_vl, ↓w_vk, ↓w_pure, ↓w_bind, ↓w_opt, ↓w_var, ↓w_cons, ↓w_op, ↓w_cmp, ↓w_bl, ↓w_bif, ↓w_chain, ↓w_chainV, ↓w_tru, ↓w_and, ↓w_or, ↓w_not, ↓w_andV, ↓w_orV, ↓w_ite, ↓w_tup, ↓w_lstX, ↓w_fz, ↓w_call, ↓w_callF, ↓w_callX, ↓w_callK, ↓w_isi, ↓w_isC, ↓w_fldN, ↓w_err1, ↓w_caught, ↓w_range1, ↓w_range2, ↓w_enum, ↓w_items, ↓w_consD, ↓w_lc, ↓w_nx, ↓w_seq, ↓w_expr, ↓w_ret, ↓w_if, ↓w_asg, ↓w_setX, ↓w_for, ↓w_par, ↓w_raise, ↓w_name, ↓w_gtup, ↓w_gcons, ↓w_gnil, t_eq, p_eq, ow_drw, ↓w_fn, ↓w_get2, ↓w_disp, ↓w_dct0, w_N, w_M, pk_some, pick_nil, pick_cons, ↓n_nx, ↓n_rt, ↓n_bk, ↓n_ct, ↓n_er, ↓l_nx, ↓l_rt, ↓l_bk, ↓l_ct, ↓l_er, ↓f_nx, ↓f_rt, ↓f_bk, ↓f_ct, ↓f_er, w_put, dats_nil, dats_cons, wx_nil, wx_dat, wx_un, wx_drw, wx_lst, wu_un, wu_dat, ww_nil, ww_cons, fr_un, fr_dat, fr_nil, fr_cons, bk_nil, bk_cons, io_lst, io_dct, io_dat, io_drw, of_lst, of_dct, of_dat, it_lst, it_rol, it_tup, tr_non, tr_bl, tr_int, tr_lst, tr_tup, a_int, a_lst, a_tup, a_str, s_int, m_int, d_int, r_int, p_int, x_int, q_int, n_int, lt_int, le_int, gt_int, ge_int, len_lst, len_rol, len_tup, int_int, abs_int, min_int, max_int, tuple_lst, tuple_rol, tuple_tup, rg_int, is_nn, ne_same, eq_same, is_nb, is_bn, isn_nn, isn_bn, isi_int_non, isi_int_bl, isi_int_int, isi_int_str, isi_int_lst, isi_int_rol, isi_int_tup, isi_int_dK, isi_bool_non, isi_bool_bl, isi_bool_int, isi_bool_str, isi_bool_lst, isi_bool_rol, isi_bool_tup, isi_bool_dK, isi_str_non, isi_str_bl, isi_str_int, isi_str_str, isi_str_lst, isi_str_rol, isi_str_tup, isi_str_dK, isi_tuple_non, isi_tuple_bl, isi_tuple_int, isi_tuple_str, isi_tuple_lst, isi_tuple_rol, isi_tuple_tup, isi_tuple_dK, isi_list_non, isi_list_bl, isi_list_int, isi_list_str, isi_list_lst, isi_list_rol, isi_list_tup, isi_list_dK, isi_dict_non, isi_dict_bl, isi_dict_int, isi_dict_str, isi_dict_lst, isi_dict_rol, isi_dict_tup, isi_dict_dK, isi_list_tuple_non, isi_list_tuple_bl, isi_list_tuple_int, isi_list_tuple_str, isi_list_tuple_lst, isi_list_tuple_rol, isi_list_tuple_tup, isi_list_tuple_dK, isi_int_str_non, isi_int_str_bl, isi_int_str_int, isi_int_str_str, isi_int_str_lst, isi_int_str_rol, isi_int_str_tup, isi_int_str_dK, is_int_n, is_int_b, isn_int_n, is_str_n, is_str_b, isn_str_n, is_lst_n, is_lst_b, isn_lst_n, is_rol_n, is_rol_b, isn_rol_n, is_tup_n, is_tup_b, isn_tup_n, is_dK_n, is_dK_b, isn_dK_n, List.getElem?_cons_zero, List.getElem?_cons_succ, List.set_cons_zero, List.set_cons_succ, List.length_cons, List.length_nil, List.reduceReplicate, List.cons_append, List.nil_append, List.append_nil, Option.getD_some, Nat.reduceAdd, Nat.reduceSub, Nat.reduceMul, Nat.reduceLT, Nat.reduceLeDiff, Nat.reduceEqDiff, Int.reduceAdd, Int.reduceSub, Int.reduceMul, Int.reduceNeg, Int.reduceLT, Int.reduceLE, Int.reduceEq, Int.reduceNe, Int.reducePow, Int.reduceToNat, Int.reduceMod, Int.reduceDiv, Int.reduceBEq, Int.reduceBNe, eq_self, and_self, and_true, true_and, decide_true, decide_false, Bool.and_self, Bool.true_and, Bool.and_true, Bool.not_true, Bool.not_false, Nat.lt_add_one, Nat.zero_lt_succ, ne_eq, not_true_eq_false, not_false_eq_true, zipK_nil, zipK_cons, dk_yes, os_some, hd_cons, si_drw, sl_io, sl_own, ix_t0, ix_t1, ix_t2, ix_t3, ix_t4, ix_t5, ix_l0, ix_l1, ix_l2, ix_l3, nc, isn_same, is_same, isn_tf, isn_ft, is_tf, is_ft, w_panil, w_pacons, Bool.false_and, Bool.and_false, Bool.or_true, Bool.true_or, Bool.false_or, Bool.or_false, ↓w_append, ↓w_brk, ↓w_cnt, ol_i, lq_dat, lq_lst, lq_dct, ↓w_listX, lx_lst, lx_rol, lx_tup, ↓w_noP, ↓w_part, prt_int, ↓w_slice, FW.sl_lst, FW.sl_rol, FW.sl_tup, ↓w_zip, zz_ll, zz_tt, w_rep, ↓w_ownNe, ↓w_ownEq, ↓w_ownLen, ↓w_ixW, ↓w_ownIx, ↓w_popW, ↓w_ownPop, la_nil, la_v, la_c, ↓w_callL, ↓w_relay, ↓w_consX, ↓u_is_tuple, ↓u_is_list, eq_n])
local macro_rules | `(tactic| walk_at "wa") => `(tactic| first | omega | (simp only [List.length_map, List.length_append, List.length_cons, List.length_nil, rangeD_len, sizeLine_eq]; omega) | exact ⟨List.cons_ne_nil _ _, by omega⟩ | decide)
local macro_rules | `(tactic| walk_at "w1") => `(tactic| first | with_reducible refine w_takeL ?_ | with_reducible refine w_pickL ?_ | with_reducible refine w_callBi ?_ | with_reducible refine w_begun ⟨by assumption, ?_⟩ | ((with_reducible refine w_isCy ?h ?_); (case h => decide +kernel)) | ((with_reducible refine w_isCn ?h ?h2 ?_); (case h => decide +kernel); (case h2 => decide +kernel)) | ((with_reducible refine w_fldy ?v ?h ?h2 ?_); (case h => decide +kernel); (case h2 => exact rfl)) | ((with_reducible refine wpA_i ?h ?_); (case h => walk_at "wa")) | (with_reducible intro) | walk_at "ws")
local macro_rules | `(tactic| walk_at "wb") => `(tactic| repeat' (first | walk_at "w1" | with_reducible refine wpB_i (fun _ => ?_) (fun _ => ?_)))
local macro_rules | `(tactic| walk_at "wg") => `(tactic| repeat walk_at "w1")
local macro_rules | `(tactic| walk_at "wi") => `(tactic| repeat (first | exact inL_nil | refine inL_cons (by omega) ?_))
theorem lay_e (f : Int) (hs : List D) (hl : hs.length < 1000) (hh : ∀ d ∈ hs, hk1 d = true) : F_is_layout [.dat (.tup [.int f, .tup hs])] = .ok (.bl (decide (-2147483648 ≤ f) && decide (f ≤ 2147483647) && (decide (hs.length ≤ 400) && hs.all okh))) [.dat (.tup [.int f, .tup hs])] := by
  refine wpE_get ?_
  unfold F_is_layout
  walk_at "wg"
  rw [wpE_ok (int_e f)]
  walk_at "wb"
  · rename_i h
    rw [Bool.not_eq_true'] at h
    rw [h] <;> rfl
  · rename_i h h2
    rw [Bool.not_eq_false'] at h
    refine wpC_map (fun d => .bl (okh d)) (fun d hd => ?_) ?_
    · walk_at "wg"
      rw [wpE_ok (btw_h d (hh d hd))]
      walk_at "wg"
      rfl
    · walk_at "wg"
      rw [all_map]
      walk_at "wg"
      rw [h]
      have : hs.length ≤ 400 := by have := of_decide_eq_true h2; omega
      simp [this]
  · rename_i h h2
    have : ¬ hs.length ≤ 400 := by have := of_decide_eq_false h2; omega
    simp [this, h2]
abbrev nolays : List D := [.non, .int 5, .tup [], .tup [.int 0], .lst [.int 0, .tup []], .tup [.int 0, .lst []], .tup [.int 0, .tup [], .int 0], .tup [.bl true, .tup []], .tup [.int 2147483648, .tup []], .tup [.non, .tup []], .tup [.int 0, .tup [.int 0]], .tup [.int 0, .tup [.int 1, .int 1048577]],
  .tup [.int 0, .tup [.int 1, .non]], .tup [.int 0, .tup [.bl true]], .tup [.int 0, .tup (List.replicate 401 [D.int 1]).flatten], .tup [.str "0", .tup []], .tup [.int 0, .int 5], .tup [.int (-2147483649), .tup [.int 1]]]
theorem nolay_ok : ∀ d ∈ nolays, F_is_layout [.dat d] = .ok (.bl false) [.dat d] := by
  intro s hs
  simp only [nolays, List.mem_cons, List.not_mem_nil, or_false] at hs
  rcases hs with rfl | rfl | rfl | rfl | rfl | rfl | rfl | rfl | rfl | rfl | rfl | rfl | rfl | rfl | rfl | rfl | rfl | rfl
  all_goals with_unfolding_all rfl
theorem size_ok (x : Dw) : wpE F__law_size [Dw.sl true x] (fun d μ => ∃ n y, d = .int n ∧ -2147483648 ≤ n ∧ n ≤ 2147483647 ∧ μ = [Dw.sl true y]) fun _ _ _ => False := by
  unfold F__law_size
  walk_at "wb"
  · exact ⟨_, _, rfl, by omega, by omega, rfl⟩
  · refine all_int (-2147483648) 2147483647 (by walk_at "wi") fun n m0 m1 => ?_
    walk_at "wg"
    exact ⟨_, _, rfl, m0, m1, rfl⟩
theorem nolay (x : Dw) : wpE F__law_no_layout [Dw.sl true x] (fun d μ => ∃ y, d ∈ nolays ∧ μ = [Dw.sl true y]) fun _ _ _ => False := by
  unfold F__law_no_layout
  walk_at "wg"
  refine all_i fun d hd y => ?_
  walk_at "wg"
  exact ⟨_, hd, rfl⟩
def hint (n : Int) : Prop := 1 ≤ n ∧ n ≤ 1048576
theorem layout (x : Dw) : wpE F__law_layout [Dw.sl true x] (fun d μ => ∃ (f : Int) (ns : List Int) (y : Dw), d = .tup [.int f, .tup (ns.map .int)] ∧ -2147483648 ≤ f ∧ f ≤ 2147483647 ∧ ns.length ≤ 60 ∧ (∀ n ∈ ns, hint n) ∧ μ = [Dw.sl true y]) fun _ _ _ => False := by
  unfold F__law_layout
  walk_at "wg"
  refine all_int 0 60 (by walk_at "wi") fun n m0 m1 => ?_
  walk_at "wb"
  all_goals
    refine wpL_inv (fun rest ρ => ∃ (ns : List Int) (y : Dw) (w n : Int) (s4 s5 : Sl), ρ = [Dw.sl true y, .dat (.int w), .lst false (ns.map .int), .dat (.int n), s4, s5] ∧ ns.length + rest.length ≤ 60 ∧ ∀ z ∈ ns, hint z) ?_ ?_ ⟨[], _, _, _, _, _, rfl, by simp only [rangeD_len, List.length_nil]; omega, by simp⟩
    · rintro d rest ρ ⟨ns, y, w, n, s4, s5, rfl, hl, hh⟩
      walk_at "wg"
      refine all_int 1 1048576 (by walk_at "wi") fun m m0 m1 => ?_
      walk_at "wb"
      · rw [List.length_cons] at hl
        refine ⟨ns ++ [1], _, _, _, _, _, by rw [List.map_append] <;> rfl, by rw [List.length_append, List.length_singleton]; omega, fun z hz => ?_⟩
        rcases List.mem_append.mp hz with hz | hz
        · exact hh z hz
        · rw [List.mem_singleton.mp hz]; exact ⟨by decide, by decide⟩
      · rw [List.length_cons] at hl
        refine ⟨ns ++ [m], _, _, _, _, _, by rw [List.map_append] <;> rfl, by rw [List.length_append, List.length_singleton]; omega, fun z hz => ?_⟩
        rcases List.mem_append.mp hz with hz | hz
        · exact hh z hz
        · rw [List.mem_singleton.mp hz]; exact ⟨m0, m1⟩
    · rintro ρ ⟨ns, y, w, n, s4, s5, rfl, hl, hh⟩
      walk_at "wg"
      refine wpE_mono (size_ok _) ?_
      rintro _ _ ⟨f, y1, rfl, h0, h1, rfl⟩
      walk_at "wg"
      exact ⟨f, ns, _, rfl, h0, h1, by simpa using hl, hh, rfl⟩
def pB (p : Bk) : PyData := .tuple [.int p.1, .int p.2]
theorem py_L : ∀ bs : List Bk, D.pyL (bs.map dB) = some (bs.map pB)
  | [] => rfl
  | b :: bs => by
    have : D.pyL ((b :: bs).map dB) = (match (dB b).py, D.pyL (bs.map dB) with | some x, some y => some (x :: y) | _, _ => none) := rfl
    rw [this, py_L bs] <;> rfl
theorem plain_L : ∀ bs : List Bk, PyData.plainAll (bs.map pB) = true ∧ PyData.depthAll (bs.map pB) ≤ 1
  | [] => ⟨rfl, by decide⟩
  | b :: bs => by
    have ⟨h1, h2⟩ := plain_L bs
    refine ⟨?_, ?_⟩
    · show (PyData.plain (pB b) && PyData.plainAll (bs.map pB)) = true
      rw [h1] <;> rfl
    · show max (PyData.depth (pB b)) (PyData.depthAll (bs.map pB)) ≤ 1
      have : PyData.depth (pB b) = 1 := rfl
      omega
theorem shp_L (bs : List Bk) : shp (.list (bs.map pB)) = true := by
  have ⟨h1, h2⟩ := plain_L bs
  unfold shp
  have e1 : PyData.plain (.list (bs.map pB)) = PyData.plainAll (bs.map pB) := by simp only [PyData.plain]
  have e2 : PyData.depth (.list (bs.map pB)) = PyData.depthAll (bs.map pB) + 1 := by simp only [PyData.depth]
  rw [e1, e2, h1, decide_eq_true (by omega)] <;> rfl
theorem py_l (bs : List Bk) : (D.lst (bs.map dB)).py = some (.list (bs.map pB)) := by
  show (D.pyL (bs.map dB)).map _ = _
  rw [py_L] <;> rfl
theorem eq_nil (bs : List Bk) : dEq (.lst (bs.map dB)) (.lst []) = some bs.isEmpty := by
  unfold dEq
  rw [py_l]
  show (if (shp (.list (bs.map pB)) && shp (.list [])) then some (PyData.eqv (.list (bs.map pB)) (.list [])) else none) = _
  rw [shp_L]
  cases bs <;> rfl
theorem ne_nil (bs : List Bk) : dNe (.lst (bs.map dB)) (.lst []) = some (!bs.isEmpty) := by
  unfold dNe
  rw [eq_nil] <;> rfl
theorem shuf (x : Dw) (bs : List Bk) (hl : bs.length ≤ 1000) : wpE F__law_shuffled [Dw.sl true x, .dat (.lst (bs.map dB))] (fun d μ => ∃ (cs : List Bk) (y : Dw), d = .lst (cs.map dB) ∧ cs.Perm bs ∧ μ = [Dw.sl true y, .dat (.lst (bs.map dB))]) fun _ _ _ => False := by
  unfold F__law_shuffled
  walk_at "wg"
  refine wpW_inv (n := bs.length) (fun k ρ => ∃ (ls fs : List Bk) (y : Dw), ρ = [Dw.sl true y, .dat (.lst (bs.map dB)), .lst false (ls.map dB), .lst false (fs.map dB)] ∧ k = ls.length ∧ (fs ++ ls).Perm bs) ?_ ⟨bs, [], _, rfl, rfl, List.Perm.refl _⟩ ?_
  · rintro k ρ ⟨ls, fs, y, rfl, rfl, hp⟩
    have hlen := hp.length_eq
    rw [List.length_append] at hlen
    walk_at "wg"
    rw [ne_nil]
    walk_at "wg"
    cases ls with
    | nil =>
      refine ⟨(by intro h; cases h), fun _ => ?_⟩
      walk_at "wg"
      exact ⟨fs, _, rfl, by simpa using hp, rfl⟩
    | cons l ls =>
      rw [List.length_cons] at hlen
      refine ⟨fun _ => ?_, (by intro h; cases h)⟩
      walk_at "wg"
      rename_i z y2 z0 z1
      have z2 := z1
      rw [List.length_map, List.length_cons] at z2
      walk_at "wg"
      rw [si_at z0 z1]
      walk_at "wg"
      have z3 : z.toNat < (l :: ls).length := by rw [List.length_cons]; omega
      have hb : (l :: ls)[z.toNat]? = some ((l :: ls)[z.toNat]) := List.getElem?_eq_getElem z3
      rw [List.getElem?_map, hb]
      walk_at "wg"
      refine ⟨((l :: ls).eraseIdx z.toNat).length, ?_, (l :: ls).eraseIdx z.toNat, fs ++ [(l :: ls)[z.toNat]], y2, ?_, rfl, ?_⟩
      · rw [List.length_eraseIdx_of_lt z3]; simp
      · rw [erase_map, List.map_append] <;> rfl
      · rw [List.append_assoc]
        exact (List.Perm.append_left fs (erase_perm hb)).trans hp
  · show _ < (bs.map dB).length + 1
    rw [List.length_map]
    exact Nat.lt_succ_self _
def Lay (bs : List Bk) : Prop := Sep bs ∧ bs.length ≤ 11 ∧ ∀ b ∈ bs, b.1 + b.2 ≤ 399
theorem taken (x : Dw) : wpE F__law_taken [Dw.sl true x] (fun d μ => ∃ (bs : List Bk) (y : Dw), d = .lst (bs.map dB) ∧ Lay bs ∧ μ = [Dw.sl true y]) fun _ _ _ => False := by
  unfold F__law_taken
  walk_at "wg"
  rename_i e0 y1 e1 e2 k y2 k1 k2
  refine wpL_inv (fun rest ρ => ∃ (bs : List Bk) (e : Int) (y : Dw) (s3 s4 s5 : Sl), ρ = [Dw.sl true y, .lst false (bs.map dB), .dat (.int e), s3, s4, s5] ∧ Sep bs ∧ (∀ b ∈ bs, b.1 + b.2 ≤ e) ∧ 0 ≤ e ∧ e ≤ 3 + 36 * bs.length ∧ bs.length + rest.length ≤ 11) ?_ ?_
    ⟨[], _, _, _, _, _, rfl, ⟨List.Pairwise.nil, by simp⟩, by simp, e1, by simp only [List.length_nil]; omega, by simp only [rangeD_len, List.length_nil]; omega⟩
  · rintro d rest ρ ⟨bs, e, y, s3, s4, s5, rfl, hs, hb, g1, g2, g3⟩
    rw [List.length_cons] at g3
    walk_at "wg"
    refine all_int 0 19 (by walk_at "wi") fun p p0 p1 => ?_
    walk_at "wg"
    rename_i m y4 m0 m1
    refine ⟨bs ++ [(e + 1 + p, 1 + m)], e + 1 + p + (1 + m), _, _, _, _, by rw [List.map_append] <;> rfl, ⟨?_, ?_⟩, ?_, ?_, ?_, ?_⟩
    · refine List.pairwise_append.mpr ⟨hs.apt, List.pairwise_singleton _ _, fun a ha b hb' => ?_⟩
      rw [List.mem_singleton.mp hb']
      have := hb a ha
      exact .inl (by show a.1 + a.2 < e + 1 + p; omega)
    · intro b hb'
      rcases List.mem_append.mp hb' with h | h
      · exact hs.ok b h
      · rw [List.mem_singleton.mp h]
        show 1 ≤ e + 1 + p ∧ 1 ≤ 1 + m ∧ 1 + m ≤ 16
        omega
    · intro b hb'
      rcases List.mem_append.mp hb' with h | h
      · have := hb b h
        omega
      · rw [List.mem_singleton.mp h]
        show e + 1 + p + (1 + m) ≤ _
        omega
    · omega
    · rw [List.length_append, List.length_singleton]; omega
    · rw [List.length_append, List.length_singleton]; omega
  · rintro ρ ⟨bs, e, y, s3, s4, s5, rfl, hs, hb, g1, g2, g3⟩
    have g4 : bs.length ≤ 11 := by omega
    walk_at "wg"
    refine wpE_mono (shuf _ bs (by omega)) ?_
    rintro _ _ ⟨cs, y5, rfl, hp, rfl⟩
    walk_at "wg"
    refine ⟨cs, _, rfl, ⟨hs.perm hp.symm, by rw [hp.length_eq]; exact g4, fun b hb' => ?_⟩, rfl⟩
    have := hb b (hp.mem_iff.mp hb')
    omega
end
end FL

set_option Elab.async false
set_option linter.all false
set_option maxRecDepth 100000
set_option maxHeartbeats 4000000

namespace FL
open PySem PySem.Spec L2 FW
variable [Tc]
section
theorem map_py (bs : List Bk) : ∀ d ∈ bs.map dB, ∃ b ∈ bs, d = dB b := fun d hd => by
  obtain ⟨b, h1, h2⟩ := List.mem_map.mp hd
  exact ⟨b, h1, h2.symm⟩
theorem srt_yes (bs : List Bk) (hl : bs.length ≤ 1000) : srtOk (bs.map dB) = true := by
  unfold srtOk
  simp only [Bool.and_eq_true, Bool.or_eq_true, List.all_eq_true, decide_eq_true_eq]
  refine ⟨⟨⟨fun d hd => ?_, fun d hd e he => ?_⟩, .inl fun d hd => ?_⟩, by rw [List.length_map, sizeLine_eq]; omega⟩
  · obtain ⟨b, _, rfl⟩ := map_py bs d hd
    exact ⟨rfl, Nat.le_trans (Nat.le_of_eq (rfl : (encD (dB b)).depth = 1)) (show 1 ≤ 32 by decide)⟩
  · obtain ⟨b, _, rfl⟩ := map_py bs d hd
    obtain ⟨c, _, rfl⟩ := map_py bs e he
    rfl
  · obtain ⟨b, _, rfl⟩ := map_py bs d hd
    rfl
theorem sd_e (bs : List Bk) (hl : bs.length ≤ 1000) : sortD (bs.map dB) = some (.lst ((srt bs).map dB)) := by
  unfold sortD
  rw [if_pos (srt_yes bs hl), srt_map]
/-- blocks as a list or as a tuple -/
def sq : Bool → List D → D | true, xs => .tup xs | false, xs => .lst xs
theorem so_e (k : Bool) (bs : List Bk) (hl : bs.length ≤ 1000) : gSorted [sq k (bs.map dB)] = some (.lst ((srt bs).map dB)) := by
  cases k <;> exact sd_e bs hl
theorem it_sq {k : Bool} {xs : List D} : dItems (sq k xs) = some xs := by cases k <;> rfl
theorem isl_sq {k : Bool} {xs : List D} : dIsi ["list", "tuple"] (sq k xs) = some true := by cases k <;> rfl
theorem srt_len (bs : List Bk) : (srt bs).length = bs.length := (srt_perm bs).length_eq
theorem cut1 (xs : List D) : cut xs (some 1) none = xs.drop 1 := by
  unfold cut
  rw [HT.sIx_none, show HT.sIx xs.length 0 (some 1) = min 1 xs.length from HT.sIx_nat xs.length 0 1]
  cases xs with
  | nil => rfl
  | cons x xs =>
    have : min 1 (x :: xs).length = 1 := by simp
    rw [this, List.length_cons, List.drop_one, List.tail_cons]
    exact List.take_of_length_le (by omega)
theorem fb_cons {m b : Int} {x : Bk} {t : List Bk} : fb m (x :: t) b = fb m t (if x.1 ≤ b + m ∧ b ≤ x.1 + x.2 then x.1 + x.2 + 1 else b) := rfl
local macro_rules | `(tactic| walk_at "ws") => `(tactic| simp (config := {dsimp := false}) only [↓w_some, ↓w_none, ↓w_oiten, ↓w_omap, ↓w_obind, ↓w_bt, ↓w_bf, ↓w_bF, ↓w_bF2, ↓w_at, ↓w_vd, ↓w_vl, ↓w_vk, ↓w_pure, ↓w_bind, ↓w_opt, ↓w_var, ↓w_cons, ↓w_op, ↓w_cmp, ↓w_bl, ↓w_bif, ↓w_chain, ↓w_chainV, ↓w_tru, ↓w_and, ↓w_or, ↓w_not, ↓w_andV, ↓w_orV, ↓w_ite, ↓w_tup, ↓w_lstX, ↓w_fz, ↓w_call, ↓w_callF, ↓w_callX, ↓w_callK, ↓w_isi, ↓w_isC, ↓w_fldN, ↓w_err1, ↓w_caught, ↓w_range1, ↓w_range2, ↓w_enum, ↓w_items, ↓w_consD, ↓w_lc, ↓w_nx, ↓w_seq, ↓w_expr, ↓w_ret, ↓w_if, ↓w_asg, ↓w_setX, ↓w_for, ↓w_par, ↓w_raise, ↓w_name, ↓w_gtup, ↓w_gcons, ↓w_gnil, t_eq, p_eq, ow_drw, ↓w_fn, ↓w_get2, ↓w_disp, ↓w_dct0, w_N, w_M, pk_some, pick_nil, pick_cons, ↓n_nx, ↓n_rt, ↓n_bk, ↓n_ct, ↓n_er, ↓l_nx, ↓l_rt, ↓l_bk, ↓l_ct, ↓l_er, ↓f_nx, ↓f_rt, ↓f_bk, ↓f_ct, ↓f_er, w_put, dats_nil, dats_cons, wx_nil, wx_dat, wx_un, wx_drw, wx_lst, wu_un, wu_dat, ww_nil, ww_cons, fr_un, fr_dat, fr_nil, fr_cons, bk_nil, bk_cons, io_lst, io_dct, io_dat, io_drw, of_lst, of_dct, of_dat, it_lst, it_rol, it_tup, tr_non, tr_bl, tr_int, tr_lst, tr_tup, a_int, a_lst, a_tup, a_str, s_int, m_int, d_int, r_int, p_int, x_int, q_int, n_int, lt_int, le_int, gt_int, ge_int, len_lst, len_rol, len_tup, int_int, abs_int, min_int, max_int, tuple_lst, tuple_rol, tuple_tup, rg_int, is_nn, ne_same, eq_same, is_nb, is_bn, isn_nn, isn_bn, isi_int_non, isi_int_bl, isi_int_int, isi_int_str, isi_int_lst, isi_int_rol, isi_int_tup, isi_int_dK, isi_bool_non, isi_bool_bl, isi_bool_int, isi_bool_str, isi_bool_lst, isi_bool_rol, isi_bool_tup, isi_bool_dK, isi_str_non, isi_str_bl, isi_str_int, isi_str_str, isi_str_lst, isi_str_rol, isi_str_tup, isi_str_dK, isi_tuple_non, isi_tuple_bl, isi_tuple_int, isi_tuple_str, isi_tuple_lst, isi_tuple_rol, isi_tuple_tup, isi_tuple_dK, isi_list_non, isi_list_bl, isi_list_int, isi_list_str, isi_list_lst, isi_list_rol, isi_list_tup, isi_list_dK, isi_dict_non, isi_dict_bl, isi_dict_int, isi_dict_str, isi_dict_lst, isi_dict_rol, isi_dict_tup, isi_dict_dK, isi_list_tuple_non, isi_list_tuple_bl, isi_list_tuple_int, isi_list_tuple_str, isi_list_tuple_lst, isi_list_tuple_rol, isi_list_tuple_tup, isi_list_tuple_dK, isi_int_str_non, isi_int_str_bl, isi_int_str_int, isi_int_str_str, isi_int_str_lst, isi_int_str_rol, isi_int_str_tup, isi_int_str_dK, is_int_n, is_int_b, isn_int_n, is_str_n, is_str_b, isn_str_n, is_lst_n, is_lst_b, isn_lst_n, is_rol_n, is_rol_b, isn_rol_n, is_tup_n, is_tup_b, isn_tup_n, is_dK_n, is_dK_b, isn_dK_n, List.getElem?_cons_zero, List.getElem?_cons_succ, List.set_cons_zero, List.set_cons_succ, List.length_cons, List.length_nil, List.reduceReplicate, List.cons_append, List.nil_append, List.append_nil, Option.getD_some, Nat.reduceAdd, Nat.reduceSub, Nat.reduceMul, Nat.reduceLT, Nat.reduceLeDiff, Nat.reduceEqDiff, Int.reduceAdd, Int.reduceSub, Int.reduceMul, Int.reduceNeg, Int.reduceLT, Int.reduceLE, Int.reduceEq, Int.reduceNe, Int.reducePow, Int.reduceToNat, Int.reduceMod, Int.reduceDiv, Int.reduceBEq, Int.reduceBNe, eq_self, and_self, and_true, true_and, decide_true, decide_false, Bool.and_self, Bool.true_and, Bool.and_true, Bool.not_true, Bool.not_false, Nat.lt_add_one, Nat.zero_lt_succ, ne_eq, not_true_eq_false, not_false_eq_true, zipK_nil, zipK_cons, dk_yes, os_some, hd_cons, si_drw, sl_io, sl_own, ix_t0, ix_t1, ix_t2, ix_t3, ix_t4, ix_t5, ix_l0, ix_l1, ix_l2, ix_l3, nc, isn_same, is_same, isn_tf, isn_ft, is_tf, is_ft, w_panil, w_pacons, Bool.false_and, Bool.and_false, Bool.or_true, Bool.true_or, Bool.false_or, Bool.or_false, ↓w_append, ↓w_brk, ↓w_cnt, ol_i, lq_dat, lq_lst, lq_dct, ↓w_listX, lx_lst, lx_rol, lx_tup, ↓w_noP, ↓w_part, prt_int, ↓w_slice, FW.sl_lst, FW.sl_rol, FW.sl_tup, ↓w_zip, zz_ll, zz_tt, w_rep, ↓w_ownNe, ↓w_ownEq, ↓w_ownLen, ↓w_ixW, ↓w_ownIx, ↓w_popW, ↓w_ownPop, la_nil, la_v, la_c, ↓w_callL, ↓w_relay, ↓w_consX, ↓u_is_tuple, ↓u_is_list, eq_n, it_sq, isl_sq])
local macro_rules | `(tactic| walk_at "wa") => `(tactic| first | omega | (simp only [List.length_map, List.length_append, List.length_cons, List.length_nil, rangeD_len, sizeLine_eq]; omega) | exact ⟨List.cons_ne_nil _ _, by omega⟩ | decide)
local macro_rules | `(tactic| walk_at "w1") => `(tactic| first | with_reducible refine w_takeL ?_ | with_reducible refine w_pickL ?_ | with_reducible refine w_callBi ?_ | with_reducible refine w_begun ⟨by assumption, ?_⟩ | ((with_reducible refine w_isCy ?h ?_); (case h => decide +kernel)) | ((with_reducible refine w_isCn ?h ?h2 ?_); (case h => decide +kernel); (case h2 => decide +kernel)) | ((with_reducible refine w_fldy ?v ?h ?h2 ?_); (case h => decide +kernel); (case h2 => exact rfl)) | ((with_reducible refine wpA_i ?h ?_); (case h => walk_at "wa")) | (with_reducible intro) | walk_at "ws")
local macro_rules | `(tactic| walk_at "wb") => `(tactic| repeat' (first | walk_at "w1" | with_reducible refine wpB_i (fun _ => ?_) (fun _ => ?_)))
local macro_rules | `(tactic| walk_at "wg") => `(tactic| repeat walk_at "w1")
local macro_rules | `(tactic| walk_at "wi") => `(tactic| repeat (first | exact inL_nil | refine inL_cons (by omega) ?_))
theorem free_e (k : Bool) (bs : List Bk) (hl : bs.length ≤ 1000) (m h : Int) : F_free_base [.dat (sq k (bs.map dB)), .dat (.int m), .dat (.int h)] = .ok (.int (fb m (srt bs) h)) [.dat (sq k (bs.map dB)), .dat (.int m), .dat (.int h)] := by
  refine wpE_get ?_
  unfold F_free_base
  walk_at "wg"
  rw [so_e k bs hl]
  walk_at "wg"
  refine wpL_inv (fun rest ρ => ∃ (S : List Bk) (b : Int) (s4 s5 : Sl), rest = S.map dB ∧ ρ = [.dat (sq k (bs.map dB)), .dat (.int m), .dat (.int h), .dat (.int b), s4, s5] ∧ fb m S b = fb m (srt bs) h) ?_ ?_ ⟨srt bs, h, _, _, rfl, rfl, rfl⟩
  · rintro d rest ρ ⟨S, b, s4, s5, e, rfl, hf⟩
    cases S with
    | nil => cases e
    | cons x S =>
      obtain ⟨x1, x2⟩ := x
      rw [List.map_cons] at e
      obtain ⟨rfl, rfl⟩ := List.cons.inj e
      rw [show dB (x1, x2) = .tup [.int x1, .int x2] from rfl]
      rw [fb_cons] at hf
      walk_at "wb"
      · rename_i h1 h2
        rw [if_pos ⟨of_decide_eq_true h1, of_decide_eq_true h2⟩] at hf
        exact ⟨S, _, _, _, rfl, rfl, hf⟩
      · rename_i h1 h2
        rw [if_neg (fun z => absurd z.2 (of_decide_eq_false h2))] at hf
        exact ⟨S, _, _, _, rfl, rfl, hf⟩
      · rename_i h1
        rw [if_neg (fun z => absurd z.1 (of_decide_eq_false h1))] at hf
        exact ⟨S, _, _, _, rfl, rfl, hf⟩
  · rintro ρ ⟨S, b, s4, s5, e, rfl, hf⟩
    cases S with
    | cons x S => cases e
    | nil =>
      walk_at "wg"
      exact congrArg D.int hf
def okz : D → Bool | .tup [.tup [.int a, .int c], .tup [.int b, .int _]] => decide (a + c < b) | _ => false
def tk (bs : List Bk) : Bool := (zipD ((srt bs).map dB) (((srt bs).map dB).drop 1)).all okz
theorem zip_mem {S : List Bk} {d : D} (h : d ∈ zipD (S.map dB) ((S.map dB).drop 1)) : ∃ a b c e, d = .tup [.tup [.int a, .int c], .tup [.int b, .int e]] := by
  unfold zipD at h
  obtain ⟨⟨x, y⟩, h1, rfl⟩ := List.mem_map.mp h
  have h2 := List.of_mem_zip h1
  obtain ⟨⟨a, c⟩, _, e1⟩ := List.mem_map.mp h2.1
  obtain ⟨⟨b, e⟩, _, e2⟩ := List.mem_map.mp (List.mem_of_mem_drop h2.2)
  exact ⟨a, b, c, e, by rw [← e1, ← e2] <;> rfl⟩
theorem tk_go : ∀ {S : List Bk}, S.Pairwise (fun x y => x.1 + x.2 < y.1) → (zipD (S.map dB) ((S.map dB).drop 1)).all okz = true
  | [], _ => rfl
  | [x], _ => rfl
  | x :: y :: S, h => by
    rw [List.pairwise_cons] at h
    have ih := tk_go h.2
    show (okz (.tup [dB x, dB y]) && (zipD ((y :: S).map dB) (((y :: S).map dB).drop 1)).all okz) = true
    rw [ih, Bool.and_true]
    exact decide_eq_true (h.1 y (by simp))
theorem tk_sep {bs : List Bk} (h : Sep bs) : tk bs = true := tk_go h.srt
theorem btw0 (n hi : Int) (h : 1 ≤ n) (h2 : n ≤ hi) : F_is_between [.dat (.int n), .dat (.int 1), .dat (.int hi)] = .ok (.bl true) [.dat (.int n), .dat (.int 1), .dat (.int hi)] := by
  rw [btw_e, decide_eq_true h, decide_eq_true h2] <;> rfl
theorem taken_e (k : Bool) (bs : List Bk) (hl : bs.length ≤ 1000) (hv : ∀ b ∈ bs, 1 ≤ b.1 ∧ 1 ≤ b.2 ∧ b.2 ≤ 16) : F_is_taken [.dat (sq k (bs.map dB))] = .ok (.bl (tk bs)) [.dat (sq k (bs.map dB))] := by
  refine wpE_get ?_
  unfold F_is_taken
  walk_at "wg"
  refine wpL_inv (fun rest ρ => ∃ (S : List Bk) (s1 : Sl), rest = S.map dB ∧ (∀ b ∈ S, 1 ≤ b.1 ∧ 1 ≤ b.2 ∧ b.2 ≤ 16) ∧ ρ = [.dat (sq k (bs.map dB)), s1, .un, .un, .un]) ?_ ?_ ⟨bs, _, rfl, hv, rfl⟩
  · rintro d rest ρ ⟨S, s1, e, hS, rfl⟩
    cases S with
    | nil => cases e
    | cons x S =>
      have hx := hS x (by simp)
      obtain ⟨x1, x2⟩ := x
      rw [List.map_cons] at e
      obtain ⟨rfl, rfl⟩ := List.cons.inj e
      rw [show dB (x1, x2) = .tup [.int x1, .int x2] from rfl]
      walk_at "wg"
      rw [wpE_ok (btw0 x1 x1 hx.1 (by omega))]
      walk_at "wg"
      rw [wpE_ok (btw0 x2 16 hx.2.1 hx.2.2)]
      walk_at "wg"
      exact ⟨S, _, rfl, fun b hb => hS b (by simp [hb]), rfl⟩
  · rintro ρ ⟨S, s1, e, hS, rfl⟩
    walk_at "wg"
    rw [so_e k bs hl]
    walk_at "wg"
    rw [cut1]
    refine wpA_i (by rw [sizeLine_eq, zipD_len, List.length_drop, List.length_map, srt_len]; omega) ?_
    walk_at "wg"
    refine wpC_map (fun d => .bl (okz d)) (fun d hd => ?_) ?_
    · obtain ⟨a, b, c, e, rfl⟩ := zip_mem hd
      walk_at "wg"
      exact ⟨rfl, rfl⟩
    · walk_at "wg"
      rw [all_map]
      walk_at "wg"
      rfl
theorem wpE_gete {α : Type} {m : M α} {ρ μ : FW.Env} {c : Str} {fs : List (Str × D)} (h : wpE m ρ (fun _ _ => False) (fun c' fs' μ' => c' = c ∧ fs' = fs ∧ μ' = μ)) : m ρ = .err c fs μ := by
  with_unfolding_all
    unfold wpE outW at h
    revert h
    cases m ρ with
    | ok a μ => exact False.elim
    | err c' fs' μ' => rintro ⟨rfl, rfl, rfl⟩; rfl
    | bad => exact False.elim
theorem lb_ok (k : Bool) (bs : List Bk) (hl : bs.length ≤ 1000) (hv : ∀ b ∈ bs, 1 ≤ b.1 ∧ 1 ≤ b.2 ∧ b.2 ≤ 16) (ht : tk bs = true) (m h : Int) (m0 : 1 ≤ m) (m1 : m ≤ 16) (h0 : 1 ≤ h) :
    F_least_base [.dat (sq k (bs.map dB)), .dat (.int m), .dat (.int h)] = .ok (.int (fb m (srt bs) h)) [.dat (sq k (bs.map dB)), .dat (.int m), .dat (.int h)] := by
  refine wpE_get ?_
  unfold F_least_base
  walk_at "wg"
  rw [wpE_ok (taken_e k bs hl hv), ht]
  walk_at "wg"
  rw [wpE_ok (btw0 m 16 m0 m1)]
  walk_at "wg"
  rw [wpE_ok (btw0 h h h0 (Int.le_refl h))]
  walk_at "wg"
  rw [wpE_ok (free_e k bs hl m h)]
  walk_at "wg"
theorem lb_bad (d : D) (hd : F_is_taken [.dat d] = .ok (.bl false) [.dat d]) (m h : D) : F_least_base [.dat d, .dat m, .dat h] = .err "BadLayout" [("part", .str "taken")] [.dat d, .dat m, .dat h] := by
  refine wpE_gete ?_
  unfold F_least_base
  walk_at "wg"
  rw [wpE_ok hd]
  walk_at "wg"
theorem lb_many (k : Bool) (bs : List Bk) (hl : bs.length ≤ 1000) (hv : ∀ b ∈ bs, 1 ≤ b.1 ∧ 1 ≤ b.2 ∧ b.2 ≤ 16) (ht : tk bs = true) (w h : D) (hw : F_is_between [.dat w, .dat (.int 1), .dat (.int 16)] = .ok (.bl false) [.dat w, .dat (.int 1), .dat (.int 16)]) :
    F_least_base [.dat (sq k (bs.map dB)), .dat w, .dat h] = .err "BadNumber" [("part", .str "many")] [.dat (sq k (bs.map dB)), .dat w, .dat h] := by
  refine wpE_gete ?_
  unfold F_least_base
  walk_at "wg"
  rw [wpE_ok (taken_e k bs hl hv), ht]
  walk_at "wg"
  rw [wpE_ok hw]
  walk_at "wg"
theorem lb_hint (k : Bool) (bs : List Bk) (hl : bs.length ≤ 1000) (hv : ∀ b ∈ bs, 1 ≤ b.1 ∧ 1 ≤ b.2 ∧ b.2 ≤ 16) (ht : tk bs = true) (w : D) (hw : F_is_between [.dat w, .dat (.int 1), .dat w] = .ok (.bl false) [.dat w, .dat (.int 1), .dat w]) :
    F_least_base [.dat (sq k (bs.map dB)), .dat (.int 1), .dat w] = .err "BadNumber" [("part", .str "hint")] [.dat (sq k (bs.map dB)), .dat (.int 1), .dat w] := by
  refine wpE_gete ?_
  unfold F_least_base
  walk_at "wg"
  rw [wpE_ok (taken_e k bs hl hv), ht]
  walk_at "wg"
  rw [wpE_ok (btw0 1 16 (by omega) (by omega))]
  walk_at "wg"
  rw [wpE_ok hw]
  walk_at "wg"
abbrev bads : List D := [.non, .int 5, .lst [dB (0, 1)], .lst [dB (1, 0)], .lst [dB (1, 17)], .lst [.tup [.int 1]], .lst [.lst [.int 1, .int 1]], .lst [.tup [.int 1, .bl true]], .lst [dB (1, 3), dB (4, 1)], .lst [dB (4, 1), dB (1, 3)], .lst [.non], .dK []]
theorem srt2 : srt [(1, 3), (4, 1)] = [(1, 3), (4, 1)] := List.mergeSort_of_pairwise (by simp [leP_iff])
theorem srt3 : srt [(4, 1), (1, 3)] = [(1, 3), (4, 1)] := by
  refine List.Perm.eq_of_pairwise (le := fun a b => leP a b = true) (fun a b _ _ h1 h2 => ?_) (List.pairwise_mergeSort leP_trans leP_total _) (by simp [leP_iff]) ((srt_perm _).trans (List.Perm.swap _ _ _))
  rw [leP_iff] at h1 h2
  exact Prod.ext (by omega) (by omega)
theorem bad_ok : ∀ d ∈ bads, F_is_taken [.dat d] = .ok (.bl false) [.dat d] := by
  intro s hs
  simp only [bads, List.mem_cons, List.not_mem_nil, or_false] at hs
  rcases hs with rfl | rfl | rfl | rfl | rfl | rfl | rfl | rfl | rfl | rfl | rfl | rfl
  · with_unfolding_all rfl
  · with_unfolding_all rfl
  · with_unfolding_all rfl
  · with_unfolding_all rfl
  · with_unfolding_all rfl
  · with_unfolding_all rfl
  · with_unfolding_all rfl
  · with_unfolding_all rfl
  · have e : tk [(1, 3), (4, 1)] = false := by unfold tk; rw [srt2] <;> rfl
    have := taken_e false [(1, 3), (4, 1)] (by decide) (by decide)
    rw [e] at this
    exact this
  · have e : tk [(4, 1), (1, 3)] = false := by unfold tk; rw [srt3] <;> rfl
    have := taken_e false [(4, 1), (1, 3)] (by decide) (by decide)
    rw [e] at this
    exact this
  · with_unfolding_all rfl
  · with_unfolding_all rfl
end
end FL

set_option Elab.async false
set_option linter.all false
set_option maxRecDepth 100000
set_option maxHeartbeats 4000000

namespace FL
open PySem PySem.Spec L2 FW
variable [Tc]
section
theorem wpS_rt {s : MS} {ρ μ : FW.Env} {d : D} (h : s ρ = .rt d μ) (P : SP) : wpS s ρ P = P.rt d μ := by
  with_unfolding_all
    unfold wpS
    rw [h] <;> rfl
theorem one_L : ∀ n : Nat, D.pyL (List.replicate n (.int 1)) = some (List.replicate n (.int 1)) ∧ PyData.plainAll (List.replicate n (.int 1)) = true ∧ PyData.depthAll (List.replicate n (.int 1)) ≤ 1
  | 0 => ⟨rfl, rfl, by decide⟩
  | n + 1 => by
    have ⟨h1, h2, h3⟩ := one_L n
    rw [List.replicate_succ, List.replicate_succ]
    refine ⟨?_, ?_, ?_⟩
    · have : ∀ ds : List D, D.pyL (D.int 1 :: ds) = (match (D.int 1).py, D.pyL ds with | some x, some y => some (x :: y) | _, _ => none) := fun _ => rfl
      rw [this, h1] <;> rfl
    · show (PyData.plain (.int 1) && PyData.plainAll _) = true
      rw [h2] <;> rfl
    · show max (PyData.depth (.int 1)) (PyData.depthAll _) ≤ 1
      have : PyData.depth (.int 1) = 0 := rfl
      omega
theorem eq_ones (n : Nat) : dEq (.lst (List.replicate n (.int 1))) (.lst []) = some (decide (n = 0)) := by
  have ⟨h1, h2, h3⟩ := one_L n
  have e : (D.lst (List.replicate n (.int 1))).py = some (.list (List.replicate n (.int 1))) := by
    show (D.pyL _).map _ = _
    rw [h1] <;> rfl
  have e3 : shp (.list (List.replicate n (.int 1))) = true := by
    unfold shp
    have e1 : PyData.plain (.list (List.replicate n (.int 1))) = PyData.plainAll (List.replicate n (.int 1)) := by simp only [PyData.plain]
    have e2 : PyData.depth (.list (List.replicate n (.int 1))) = PyData.depthAll (List.replicate n (.int 1)) + 1 := by simp only [PyData.depth]
    rw [e1, e2, h2, decide_eq_true (by omega)] <;> rfl
  unfold dEq
  rw [e]
  show (if (shp (.list (List.replicate n (.int 1))) && shp (.list [])) then some (PyData.eqv (.list (List.replicate n (.int 1))) (.list [])) else none) = _
  rw [e3]
  cases n <;> rfl
theorem fl_int {i : Int} : flatD (.int i) = true := rfl
local macro_rules | `(tactic| walk_at "ws") => `(tactic| simp (config := {dsimp := false}) only [↓w_some, ↓w_none, ↓w_oiten, ↓w_omap, ↓w_obind, ↓w_bt, ↓w_bf, ↓w_bF, ↓w_bF2, ↓w_at, ↓w_vd, ↓w_vl, ↓w_vk, ↓w_pure, ↓w_bind, ↓w_opt, ↓w_var, ↓w_cons, ↓w_op, ↓w_cmp, ↓w_bl, ↓w_bif, ↓w_chain, ↓w_chainV, ↓w_tru, ↓w_and, ↓w_or, ↓w_not, ↓w_andV, ↓w_orV, ↓w_ite, ↓w_tup, ↓w_lstX, ↓w_fz, ↓w_call, ↓w_callF, ↓w_callX, ↓w_callK, ↓w_isi, ↓w_isC, ↓w_fldN, ↓w_err1, ↓w_caught, ↓w_range1, ↓w_range2, ↓w_enum, ↓w_items, ↓w_consD, ↓w_lc, ↓w_nx, ↓w_seq, ↓w_expr, ↓w_ret, ↓w_if, ↓w_asg, ↓w_setX, ↓w_for, ↓w_par, ↓w_raise, ↓w_name, ↓w_gtup, ↓w_gcons, ↓w_gnil, t_eq, p_eq, ow_drw, ↓w_fn, ↓w_get2, ↓w_disp, ↓w_dct0, w_N, w_M, pk_some, pick_nil, pick_cons, ↓n_nx, ↓n_rt, ↓n_bk, ↓n_ct, ↓n_er, ↓l_nx, ↓l_rt, ↓l_bk, ↓l_ct, ↓l_er, ↓f_nx, ↓f_rt, ↓f_bk, ↓f_ct, ↓f_er, w_put, dats_nil, dats_cons, wx_nil, wx_dat, wx_un, wx_drw, wx_lst, wu_un, wu_dat, ww_nil, ww_cons, fr_un, fr_dat, fr_nil, fr_cons, bk_nil, bk_cons, io_lst, io_dct, io_dat, io_drw, of_lst, of_dct, of_dat, it_lst, it_rol, it_tup, tr_non, tr_bl, tr_int, tr_lst, tr_tup, a_int, a_lst, a_tup, a_str, s_int, m_int, d_int, r_int, p_int, x_int, q_int, n_int, lt_int, le_int, gt_int, ge_int, len_lst, len_rol, len_tup, int_int, abs_int, min_int, max_int, tuple_lst, tuple_rol, tuple_tup, rg_int, is_nn, ne_same, eq_same, is_nb, is_bn, isn_nn, isn_bn, isi_int_non, isi_int_bl, isi_int_int, isi_int_str, isi_int_lst, isi_int_rol, isi_int_tup, isi_int_dK, isi_bool_non, isi_bool_bl, isi_bool_int, isi_bool_str, isi_bool_lst, isi_bool_rol, isi_bool_tup, isi_bool_dK, isi_str_non, isi_str_bl, isi_str_int, isi_str_str, isi_str_lst, isi_str_rol, isi_str_tup, isi_str_dK, isi_tuple_non, isi_tuple_bl, isi_tuple_int, isi_tuple_str, isi_tuple_lst, isi_tuple_rol, isi_tuple_tup, isi_tuple_dK, isi_list_non, isi_list_bl, isi_list_int, isi_list_str, isi_list_lst, isi_list_rol, isi_list_tup, isi_list_dK, isi_dict_non, isi_dict_bl, isi_dict_int, isi_dict_str, isi_dict_lst, isi_dict_rol, isi_dict_tup, isi_dict_dK, isi_list_tuple_non, isi_list_tuple_bl, isi_list_tuple_int, isi_list_tuple_str, isi_list_tuple_lst, isi_list_tuple_rol, isi_list_tuple_tup, isi_list_tuple_dK, isi_int_str_non, isi_int_str_bl, isi_int_str_int, isi_int_str_str, isi_int_str_lst, isi_int_str_rol, isi_int_str_tup, isi_int_str_dK, is_int_n, is_int_b, isn_int_n, is_str_n, is_str_b, isn_str_n, is_lst_n, is_lst_b, isn_lst_n, is_rol_n, is_rol_b, isn_rol_n, is_tup_n, is_tup_b, isn_tup_n, is_dK_n, is_dK_b, isn_dK_n, List.getElem?_cons_zero, List.getElem?_cons_succ, List.set_cons_zero, List.set_cons_succ, List.length_cons, List.length_nil, List.reduceReplicate, List.cons_append, List.nil_append, List.append_nil, Option.getD_some, Nat.reduceAdd, Nat.reduceSub, Nat.reduceMul, Nat.reduceLT, Nat.reduceLeDiff, Nat.reduceEqDiff, Int.reduceAdd, Int.reduceSub, Int.reduceMul, Int.reduceNeg, Int.reduceLT, Int.reduceLE, Int.reduceEq, Int.reduceNe, Int.reducePow, Int.reduceToNat, Int.reduceMod, Int.reduceDiv, Int.reduceBEq, Int.reduceBNe, eq_self, and_self, and_true, true_and, decide_true, decide_false, Bool.and_self, Bool.true_and, Bool.and_true, Bool.not_true, Bool.not_false, Nat.lt_add_one, Nat.zero_lt_succ, ne_eq, not_true_eq_false, not_false_eq_true, zipK_nil, zipK_cons, dk_yes, os_some, hd_cons, si_drw, sl_io, sl_own, ix_t0, ix_t1, ix_t2, ix_t3, ix_t4, ix_t5, ix_l0, ix_l1, ix_l2, ix_l3, nc, isn_same, is_same, isn_tf, isn_ft, is_tf, is_ft, w_panil, w_pacons, Bool.false_and, Bool.and_false, Bool.or_true, Bool.true_or, Bool.false_or, Bool.or_false, ↓w_append, ↓w_brk, ↓w_cnt, ol_i, lq_dat, lq_lst, lq_dct, ↓w_listX, lx_lst, lx_rol, lx_tup, ↓w_noP, ↓w_part, prt_int, ↓w_slice, FW.sl_lst, FW.sl_rol, FW.sl_tup, ↓w_zip, zz_ll, zz_tt, w_rep, ↓w_ownNe, ↓w_ownEq, ↓w_ownLen, ↓w_ixW, ↓w_ownIx, ↓w_popW, ↓w_ownPop, la_nil, la_v, la_c, ↓w_callL, ↓w_relay, ↓w_consX, eq_n, fl_int])
local macro_rules | `(tactic| walk_at "wa") => `(tactic| first | omega | (simp only [List.length_map, List.length_append, List.length_cons, List.length_nil, rangeD_len, sizeLine_eq]; omega) | exact ⟨List.cons_ne_nil _ _, by omega⟩ | decide)
local macro_rules | `(tactic| walk_at "w1") => `(tactic| first | with_reducible refine w_takeL ?_ | with_reducible refine w_pickL ?_ | with_reducible refine w_callBi ?_ | with_reducible refine w_begun ⟨by assumption, ?_⟩ | ((with_reducible refine w_isCy ?h ?_); (case h => decide +kernel)) | ((with_reducible refine w_isCn ?h ?h2 ?_); (case h => decide +kernel); (case h2 => decide +kernel)) | ((with_reducible refine w_fldy ?v ?h ?h2 ?_); (case h => decide +kernel); (case h2 => exact rfl)) | ((with_reducible refine wpA_i ?h ?_); (case h => walk_at "wa")) | (with_reducible intro) | walk_at "ws")
local macro_rules | `(tactic| walk_at "wb") => `(tactic| repeat' (first | walk_at "w1" | with_reducible refine wpB_i (fun _ => ?_) (fun _ => ?_)))
local macro_rules | `(tactic| walk_at "wg") => `(tactic| repeat walk_at "w1")
local macro_rules | `(tactic| walk_at "wi") => `(tactic| repeat (first | exact inL_nil | refine inL_cons (by omega) ?_))
theorem base_e (bs : List Bk) (hl : bs.length ≤ 1000) (hs : Sep bs) (m h : Int) (hm : 0 ≤ m) (hr : fb m (srt bs) h - h ≤ 1000) :
    F__law_base_of [.dat (.lst (bs.map dB)), .dat (.int m), .dat (.int h)] = .ok (.int (fb m (srt bs) h)) [.dat (.lst (bs.map dB)), .dat (.int m), .dat (.int h)] := by
  have hp := srt_perm bs
  obtain ⟨r1, r2, r3⟩ := fb_ok hm (b := h) hs.srt (fun x hx => (hs.ok x (hp.mem_iff.mp hx)).2.1)
  have r4 : ∀ x ∈ bs, ¬ Hit m (fb m (srt bs) h) x := fun x hx => r2 x (hp.mem_iff.mpr hx)
  have r5 : ∀ z, h ≤ z → z < fb m (srt bs) h → ∃ x ∈ bs, Hit m z x := fun z z1 z2 => by
    obtain ⟨x, hx, q⟩ := r3 z z1 z2
    exact ⟨x, hp.mem_iff.mp hx, q⟩
  refine wpE_get ?_
  unfold F__law_base_of
  walk_at "wg"
  refine wpL_inv (fun rest ρ => ∃ (j : Nat) (s4 : Sl), ρ = [.dat (.lst (bs.map dB)), .dat (.int m), .dat (.int h), .dat (.int (h + j)), s4, .un, .un] ∧ j + rest.length = 1100 ∧ h + j ≤ fb m (srt bs) h) ?_ ?_ ⟨0, .un, by simp, by rw [rangeD_len], by omega⟩
  · rintro d rest ρ ⟨j, s4, rfl, h1, h2⟩
    rw [List.length_cons] at h1
    walk_at "wg"
    refine wpC_inv (fun rest acc ρ' => ∃ (S : List Bk) (n : Nat), rest = S.map dB ∧ ρ' = [.dat (.lst (bs.map dB)), .dat (.int m), .dat (.int h), .dat (.int (h + j)), .dat d, .un, .un] ∧ acc = List.replicate n (.int 1) ∧ n + (S.filter fun x => decide (Hit m (h + j) x)).length = (bs.filter fun x => decide (Hit m (h + j) x)).length) ?_ ?_ ⟨bs, 0, rfl, rfl, rfl, by simp⟩
    · rintro d' rest' acc ρ' ⟨S, n, e, rfl, rfl, hn⟩
      cases S with
      | nil => cases e
      | cons x S =>
        obtain ⟨x1, x2⟩ := x
        rw [List.map_cons] at e
        obtain ⟨rfl, rfl⟩ := List.cons.inj e
        rw [show dB (x1, x2) = .tup [.int x1, .int x2] from rfl]
        walk_at "wb"
        · rename_i g1 g2
          have hit : Hit m (h + j) (x1, x2) := ⟨of_decide_eq_true g1, of_decide_eq_true g2⟩
          rw [List.filter_cons_of_pos (p := fun x => decide (Hit m (h + j) x)) (a := (x1, x2)) (l := S) (decide_eq_true hit), List.length_cons] at hn
          exact ⟨S, n + 1, rfl, List.replicate_succ'.symm, by omega⟩
        · rename_i g1 g2
          have hit : ¬ Hit m (h + j) (x1, x2) := fun z => of_decide_eq_false g2 z.2
          rw [List.filter_cons_of_neg (by simpa using hit)] at hn
          exact ⟨S, n, rfl, rfl, hn⟩
        · rename_i g1
          have hit : ¬ Hit m (h + j) (x1, x2) := fun z => of_decide_eq_false g1 z.1
          rw [List.filter_cons_of_neg (by simpa using hit)] at hn
          exact ⟨S, n, rfl, rfl, hn⟩
    · rintro acc ρ' ⟨S, n, e, rfl, rfl, hn⟩
      cases S with
      | cons x S => cases e
      | nil =>
        walk_at "wg"
        rw [eq_ones]
        rw [List.filter_nil, List.length_nil, Nat.add_zero] at hn
        walk_at "wb"
        · rename_i g
          have g := of_decide_eq_true g
          refine congrArg D.int ?_
          by_cases q : h + j = fb m (srt bs) h
          · exact q
          · obtain ⟨x, hx, hit⟩ := r5 (h + j) (by omega) (by omega)
            have : x ∈ bs.filter fun x => decide (Hit m (h + j) x) := List.mem_filter.mpr ⟨hx, decide_eq_true hit⟩
            rw [List.length_eq_zero_iff.mp (hn.symm.trans g)] at this
            cases this
        · rename_i g
          have g := of_decide_eq_false g
          have : (bs.filter fun x => decide (Hit m (h + j) x)) ≠ [] := fun z => g (by rw [hn, z] <;> rfl)
          obtain ⟨x, hx⟩ := List.exists_mem_of_ne_nil _ this
          obtain ⟨hx, hit⟩ := List.mem_filter.mp hx
          have hit := of_decide_eq_true hit
          have ne : h + j ≠ fb m (srt bs) h := fun z => r4 x hx (z ▸ hit)
          refine ⟨j + 1, .dat d, ?_, by omega, by omega⟩
          rw [show h + ((j + 1 : Nat) : Int) = h + j + 1 by omega]
  · rintro ρ ⟨j, s4, rfl, h1, h2⟩
    rw [List.length_nil] at h1
    exact absurd h2 (by omega)
theorem placed (x : Dw) : wpE F__law_placed_right [Dw.sl true x] (fun d μ => ∃ y : Dw, d = .bl true ∧ μ = [Dw.sl true y]) fun _ _ _ => False := by
  unfold F__law_placed_right
  walk_at "wg"
  refine wpE_mono (taken _) ?_
  rintro _ _ ⟨bs, y1, rfl, ⟨hs, hl, hb⟩, rfl⟩
  walk_at "wg"
  refine wpL_inv (fun rest ρ => ∃ (S ps : List Bk) (y : Dw) (s3 s4 : Sl), rest = S.map dB ∧ ps ++ S = bs ∧ ρ = [Dw.sl true y, .dat (.lst (bs.map dB)), .lst false (ps.map dB), s3, s4]) ?_ ?_ ⟨bs, [], _, _, _, rfl, rfl, rfl⟩
  · rintro d rest ρ ⟨S, ps, y, s3, s4, e, hp, rfl⟩
    cases S with
    | nil => cases e
    | cons x S =>
      obtain ⟨x1, x2⟩ := x
      rw [List.map_cons] at e
      obtain ⟨rfl, rfl⟩ := List.cons.inj e
      rw [show dB (x1, x2) = .tup [.int x1, .int x2] from rfl]
      have hs2 : Sep (ps ++ (x1, x2) :: S) := by rw [hp]; exact hs
      have hapt := List.pairwise_append.mp hs2.apt
      have hps : Sep ps := ⟨hapt.1, fun b hb => hs2.ok b (by simp [hb])⟩
      have hx := hs2.ok (x1, x2) (by simp)
      have hlen : ps.length ≤ 11 := by
        have : ps.length + (S.length + 1) = bs.length := by rw [← hp, List.length_append, List.length_cons]
        omega
      have no : ∀ z ∈ srt ps, ¬ Hit x2 x1 z := fun z hz => by
        have h1 := hapt.2.2 z ((srt_perm ps).mem_iff.mp hz) (x1, x2) (by simp)
        unfold Hit
        rcases h1 with h1 | h1 <;> simp only at h1 <;> omega
      have lb := lb_ok false ps (by omega) hps.ok (tk_sep hps) x2 x1 hx.2.1 hx.2.2 hx.1
      rw [fb_no no] at lb
      have lb : F_least_base [.dat (.lst (ps.map dB)), .dat (.int x2), .dat (.int x1)] = .ok (.int x1) [.dat (.lst (ps.map dB)), .dat (.int x2), .dat (.int x1)] := lb
      walk_at "wg"
      rw [wpE_ok lb]
      walk_at "wg"
      exact ⟨S, ps ++ [(x1, x2)], _, _, _, rfl, by rw [List.append_assoc]; exact hp, by rw [List.map_append] <;> rfl⟩
  · rintro ρ ⟨S, ps, y, s3, s4, e, hp, rfl⟩
    walk_at "wg"
    exact ⟨_, rfl⟩
end
end FL

set_option Elab.async false
set_option linter.all false
set_option maxRecDepth 100000
set_option maxHeartbeats 4000000

namespace FL
open PySem PySem.Spec L2 FW
variable [Tc]
section
theorem bp1 : ∃ μ, m__law_is_bad_part [Sl.un, .dat (.str "layout"), .dat (.str "taken"), .dat (.exc "BadLayout" [("part", .str "taken")]), .un, .un] = .rt (.bl true) μ := ⟨_, by with_unfolding_all rfl⟩
theorem bp2 : ∃ μ, m__law_is_bad_part [Sl.un, .dat (.str "number"), .dat (.str "many"), .dat (.exc "BadNumber" [("part", .str "many")]), .un, .un] = .rt (.bl true) μ := ⟨_, by with_unfolding_all rfl⟩
theorem bp3 : ∃ μ, m__law_is_bad_part [Sl.un, .dat (.str "number"), .dat (.str "hint"), .dat (.exc "BadNumber" [("part", .str "hint")]), .un, .un] = .rt (.bl true) μ := ⟨_, by with_unfolding_all rfl⟩
local macro_rules | `(tactic| walk_at "ws") => `(tactic| simp (config := {dsimp := false}) only [↓w_some, ↓w_none, ↓w_oiten, ↓w_omap, ↓w_obind, ↓w_bt, ↓w_bf, ↓w_bF, ↓w_bF2, ↓w_at, ↓w_vd, ↓w_vl, ↓w_vk, ↓w_pure, ↓w_bind, ↓w_opt, ↓w_var, ↓w_cons, ↓w_op, ↓w_cmp, ↓w_bl, ↓w_bif, ↓w_chain, ↓w_chainV, ↓w_tru, ↓w_and, ↓w_or, ↓w_not, ↓w_andV, ↓w_orV, ↓w_ite, ↓w_tup, ↓w_lstX, ↓w_fz, ↓w_call, ↓w_callF, ↓w_callX, ↓w_callK, ↓w_isi, ↓w_isC, ↓w_fldN, ↓w_err1, ↓w_caught, ↓w_range1, ↓w_range2, ↓w_enum, ↓w_items, ↓w_consD, ↓w_lc, ↓w_nx, ↓w_seq, ↓w_expr, ↓w_ret, ↓w_if, ↓w_asg, ↓w_setX, ↓w_for, ↓w_par, ↓w_raise, ↓w_name, ↓w_gtup, ↓w_gcons, ↓w_gnil, t_eq, p_eq, ow_drw, ↓w_fn, ↓w_get2, ↓w_disp, ↓w_dct0, w_N, w_M, pk_some, pick_nil, pick_cons, ↓n_nx, ↓n_rt, ↓n_bk, ↓n_ct, ↓n_er, ↓l_nx, ↓l_rt, ↓l_bk, ↓l_ct, ↓l_er, ↓f_nx, ↓f_rt, ↓f_bk, ↓f_ct, ↓f_er, w_put, dats_nil, dats_cons, wx_nil, wx_dat, wx_un, wx_drw, wx_lst, wu_un, wu_dat, ww_nil, ww_cons, fr_un, fr_dat, fr_nil, fr_cons, bk_nil, bk_cons, io_lst, io_dct, io_dat, io_drw, of_lst, of_dct, of_dat, it_lst, it_rol, it_tup, tr_non, tr_bl, tr_int, tr_lst, tr_tup, a_int, a_lst, a_tup, a_str, s_int, m_int, d_int, r_int, p_int, x_int, q_int, n_int, lt_int, le_int, gt_int, ge_int, len_lst, len_rol, len_tup, int_int, abs_int, min_int, max_int, tuple_lst, tuple_rol, tuple_tup, rg_int, is_nn, ne_same, eq_same, is_nb, is_bn, isn_nn, isn_bn, isi_int_non, isi_int_bl, isi_int_int, isi_int_str, isi_int_lst, isi_int_rol, isi_int_tup, isi_int_dK, isi_bool_non, isi_bool_bl, isi_bool_int, isi_bool_str, isi_bool_lst, isi_bool_rol, isi_bool_tup, isi_bool_dK, isi_str_non, isi_str_bl, isi_str_int, isi_str_str, isi_str_lst, isi_str_rol, isi_str_tup, isi_str_dK, isi_tuple_non, isi_tuple_bl, isi_tuple_int, isi_tuple_str, isi_tuple_lst, isi_tuple_rol, isi_tuple_tup, isi_tuple_dK, isi_list_non, isi_list_bl, isi_list_int, isi_list_str, isi_list_lst, isi_list_rol, isi_list_tup, isi_list_dK, isi_dict_non, isi_dict_bl, isi_dict_int, isi_dict_str, isi_dict_lst, isi_dict_rol, isi_dict_tup, isi_dict_dK, isi_list_tuple_non, isi_list_tuple_bl, isi_list_tuple_int, isi_list_tuple_str, isi_list_tuple_lst, isi_list_tuple_rol, isi_list_tuple_tup, isi_list_tuple_dK, isi_int_str_non, isi_int_str_bl, isi_int_str_int, isi_int_str_str, isi_int_str_lst, isi_int_str_rol, isi_int_str_tup, isi_int_str_dK, is_int_n, is_int_b, isn_int_n, is_str_n, is_str_b, isn_str_n, is_lst_n, is_lst_b, isn_lst_n, is_rol_n, is_rol_b, isn_rol_n, is_tup_n, is_tup_b, isn_tup_n, is_dK_n, is_dK_b, isn_dK_n, List.getElem?_cons_zero, List.getElem?_cons_succ, List.set_cons_zero, List.set_cons_succ, List.length_cons, List.length_nil, List.reduceReplicate, List.cons_append, List.nil_append, List.append_nil, Option.getD_some, Nat.reduceAdd, Nat.reduceSub, Nat.reduceMul, Nat.reduceLT, Nat.reduceLeDiff, Nat.reduceEqDiff, Int.reduceAdd, Int.reduceSub, Int.reduceMul, Int.reduceNeg, Int.reduceLT, Int.reduceLE, Int.reduceEq, Int.reduceNe, Int.reducePow, Int.reduceToNat, Int.reduceMod, Int.reduceDiv, Int.reduceBEq, Int.reduceBNe, eq_self, and_self, and_true, true_and, decide_true, decide_false, Bool.and_self, Bool.true_and, Bool.and_true, Bool.not_true, Bool.not_false, Nat.lt_add_one, Nat.zero_lt_succ, ne_eq, not_true_eq_false, not_false_eq_true, zipK_nil, zipK_cons, dk_yes, os_some, hd_cons, si_drw, sl_io, sl_own, ix_t0, ix_t1, ix_t2, ix_t3, ix_t4, ix_t5, ix_l0, ix_l1, ix_l2, ix_l3, nc, isn_same, is_same, isn_tf, isn_ft, is_tf, is_ft, w_panil, w_pacons, Bool.false_and, Bool.and_false, Bool.or_true, Bool.true_or, Bool.false_or, Bool.or_false, ↓w_append, ↓w_brk, ↓w_cnt, ol_i, lq_dat, lq_lst, lq_dct, ↓w_listX, lx_lst, lx_rol, lx_tup, ↓w_noP, ↓w_part, prt_int, ↓w_slice, FW.sl_lst, FW.sl_rol, FW.sl_tup, ↓w_zip, zz_ll, zz_tt, w_rep, ↓w_ownNe, ↓w_ownEq, ↓w_ownLen, ↓w_ixW, ↓w_ownIx, ↓w_popW, ↓w_ownPop, la_nil, la_v, la_c, ↓w_callL, ↓w_relay, ↓w_consX, eq_n, fl_int])
local macro_rules | `(tactic| walk_at "wa") => `(tactic| first | omega | (simp only [List.length_map, List.length_append, List.length_cons, List.length_nil, rangeD_len, sizeLine_eq]; omega) | exact ⟨List.cons_ne_nil _ _, by omega⟩ | decide)
local macro_rules | `(tactic| walk_at "w1") => `(tactic| first | with_reducible refine w_takeL ?_ | with_reducible refine w_pickL ?_ | with_reducible refine w_callBi ?_ | with_reducible refine w_begun ⟨by assumption, ?_⟩ | ((with_reducible refine w_isCy ?h ?_); (case h => decide +kernel)) | ((with_reducible refine w_isCn ?h ?h2 ?_); (case h => decide +kernel); (case h2 => decide +kernel)) | ((with_reducible refine w_fldy ?v ?h ?h2 ?_); (case h => decide +kernel); (case h2 => exact rfl)) | ((with_reducible refine wpA_i ?h ?_); (case h => walk_at "wa")) | (with_reducible intro) | walk_at "ws")
local macro_rules | `(tactic| walk_at "wb") => `(tactic| repeat' (first | walk_at "w1" | with_reducible refine wpB_i (fun _ => ?_) (fun _ => ?_)))
local macro_rules | `(tactic| walk_at "wg") => `(tactic| repeat walk_at "w1")
local macro_rules | `(tactic| walk_at "wi") => `(tactic| repeat (first | exact inL_nil | refine inL_cons (by omega) ?_))
abbrev manys : List D := [.int 0, .int 17, .non, .bl true, .int (-1), .str "1"]
abbrev hints : List D := [.int 0, .non, .bl true, .int (-5), .str "1", .tup [.int 1]]
theorem many_ok : ∀ w ∈ manys, F_is_between [.dat w, .dat (.int 1), .dat (.int 16)] = .ok (.bl false) [.dat w, .dat (.int 1), .dat (.int 16)] := by
  intro s hs
  simp only [manys, List.mem_cons, List.not_mem_nil, or_false] at hs
  rcases hs with rfl | rfl | rfl | rfl | rfl | rfl <;> with_unfolding_all rfl
theorem hint_ok : ∀ w ∈ hints, F_is_between [.dat w, .dat (.int 1), .dat w] = .ok (.bl false) [.dat w, .dat (.int 1), .dat w] := by
  intro s hs
  simp only [hints, List.mem_cons, List.not_mem_nil, or_false] at hs
  rcases hs with rfl | rfl | rfl | rfl | rfl | rfl <;> with_unfolding_all rfl
theorem refused (x : Dw) (bs : List Bk) (hl : bs.length ≤ 1000) (hs : Sep bs) : wpE F__law_refused [Dw.sl true x, .dat (.lst (bs.map dB))] (fun d μ => ∃ y : Dw, d = .bl true ∧ μ = [Dw.sl true y, .dat (.lst (bs.map dB))]) fun _ _ _ => False := by
  unfold F__law_refused
  walk_at "wg"
  refine all_i fun bad hbad y => ?_
  walk_at "wg"
  rw [wpE_err (lb_bad bad (bad_ok bad hbad) _ _)]
  walk_at "wg"
  obtain ⟨μ1, b1⟩ := bp1
  rw [wpS_rt b1]
  walk_at "wg"
  refine wpL_inv (fun rest ρ => ∃ (n : Nat) (s4 : Sl), (∀ w ∈ rest, w ∈ manys) ∧ n + rest.length = 7 ∧ ρ = [Dw.sl true y, .dat (.lst (bs.map dB)), .lst false (List.replicate n (.bl true)), .dat bad, s4]) ?_ ?_ ⟨1, _, fun _ h => h, rfl, rfl⟩
  · rintro w rest ρ ⟨n, s4, hw, hn, rfl⟩
    rw [List.length_cons] at hn
    walk_at "wg"
    have q : F_least_base [.dat (.lst (bs.map dB)), .dat w, .dat (.int 0)] = .err "BadNumber" [("part", .str "many")] [.dat (.lst (bs.map dB)), .dat w, .dat (.int 0)] := lb_many false bs hl hs.ok (tk_sep hs) w (.int 0) (many_ok w (hw w (by simp)))
    rw [wpE_err q]
    walk_at "wg"
    obtain ⟨μ2, b2⟩ := bp2
    rw [wpS_rt b2]
    walk_at "wg"
    refine wpA_i (by rw [List.length_replicate, sizeLine_eq]; omega) ?_
    walk_at "wg"
    exact ⟨n + 1, _, fun z hz => hw z (by simp [hz]), by omega, by rw [List.replicate_succ']⟩
  · rintro ρ ⟨n, s4, hw, hn, rfl⟩
    rw [List.length_nil] at hn
    walk_at "wg"
    refine wpL_inv (fun rest ρ => ∃ (n : Nat) (s4 : Sl), (∀ w ∈ rest, w ∈ hints) ∧ n + rest.length = 13 ∧ ρ = [Dw.sl true y, .dat (.lst (bs.map dB)), .lst false (List.replicate n (.bl true)), .dat bad, s4]) ?_ ?_ ⟨n, s4, fun _ h => h, by simp only [List.length_cons, List.length_nil]; omega, rfl⟩
    · rintro w rest ρ ⟨n, s4, hw, hn, rfl⟩
      rw [List.length_cons] at hn
      walk_at "wg"
      have q : F_least_base [.dat (.lst (bs.map dB)), .dat (.int 1), .dat w] = .err "BadNumber" [("part", .str "hint")] [.dat (.lst (bs.map dB)), .dat (.int 1), .dat w] := lb_hint false bs hl hs.ok (tk_sep hs) w (hint_ok w (hw w (by simp)))
      rw [wpE_err q]
      walk_at "wg"
      obtain ⟨μ2, b2⟩ := bp3
      rw [wpS_rt b2]
      walk_at "wg"
      refine wpA_i (by rw [List.length_replicate, sizeLine_eq]; omega) ?_
      walk_at "wg"
      exact ⟨n + 1, _, fun z hz => hw z (by simp [hz]), by omega, by rw [List.replicate_succ']⟩
    · rintro ρ ⟨n, s4, hw, hn, rfl⟩
      rw [List.length_nil] at hn
      obtain rfl : n = 13 := by omega
      walk_at "wg"
      rw [show dNotIn (.bl false) (.lst [.bl true, .bl true, .bl true, .bl true, .bl true, .bl true, .bl true, .bl true, .bl true, .bl true, .bl true, .bl true, .bl true]) = some true from by with_unfolding_all rfl]
      walk_at "wg"
      exact ⟨_, rfl⟩
theorem truth_ok (a b : Bool) : F__law_is_truth [.dat (.bl a), .dat (.bl b)] = .ok (.bl (a == b)) [.dat (.bl a), .dat (.bl b)] := by cases a <;> cases b <;> with_unfolding_all rfl
theorem hk_ns (ns : List Int) : ∀ d ∈ ns.map D.int, hk1 d = true := fun d hd => by
  obtain ⟨n, _, rfl⟩ := List.mem_map.mp hd
  rfl
theorem ok_ns {ns : List Int} (h : ∀ n ∈ ns, hint n) : (ns.map D.int).all okh = true := by
  rw [List.all_eq_true]
  intro d hd
  obtain ⟨n, hn, rfl⟩ := List.mem_map.mp hd
  have := h n hn
  show (decide (1 ≤ n) && decide (n ≤ 1048576)) = true
  rw [decide_eq_true this.1, decide_eq_true this.2] <;> rfl
theorem lay_ns (f : Int) (ns : List Int) (hl : ns.length ≤ 60) (hh : ∀ n ∈ ns, hint n) : F_is_layout [.dat (.tup [.int f, .tup (ns.map .int)])] = .ok (.bl (decide (-2147483648 ≤ f) && decide (f ≤ 2147483647))) [.dat (.tup [.int f, .tup (ns.map .int)])] := by
  rw [lay_e f (ns.map .int) (by rw [List.length_map]; omega) (hk_ns ns), ok_ns hh, List.length_map, decide_eq_true (show ns.length ≤ 400 by omega)]
  simp
theorem lay_one (f : Int) (f0 : -2147483648 ≤ f) (f1 : f ≤ 2147483647) (ns : List Int) (hl : ns.length ≤ 60) (hh : ∀ n ∈ ns, hint n) (d : D) (hd : hk1 d = true) : F_is_layout [.dat (.tup [.int f, .tup (ns.map D.int ++ [d])])] = .ok (.bl (okh d)) [.dat (.tup [.int f, .tup (ns.map D.int ++ [d])])] := by
  rw [lay_e f (ns.map D.int ++ [d]) (by rw [List.length_append, List.length_map, List.length_singleton]; omega) (fun z hz => by
    rcases List.mem_append.mp hz with hz | hz
    · exact hk_ns ns z hz
    · rw [List.mem_singleton.mp hz]; exact hd), List.all_append, ok_ns hh, List.length_append, List.length_map, List.length_singleton, decide_eq_true (show ns.length + 1 ≤ 400 by omega), decide_eq_true f0, decide_eq_true f1]
  simp
theorem lay_lst (a b : D) : F_is_layout [.dat (.lst [a, b])] = .ok (.bl false) [.dat (.lst [a, b])] := by with_unfolding_all rfl
theorem cut399 (xs : List D) (h : xs.length ≤ 60) : cut xs none (some 399) = xs := by
  unfold cut
  rw [HT.sIx_none, show HT.sIx xs.length xs.length (some 399) = min 399 xs.length from HT.sIx_nat xs.length xs.length 399, Nat.min_eq_right (by omega), Nat.sub_zero, List.drop_zero, List.take_length]
end
end FL

set_option Elab.async false
set_option linter.all false
set_option maxRecDepth 100000
set_option maxHeartbeats 4000000

namespace FL
open PySem PySem.Spec L2 FW
variable [Tc]
section
theorem truth_same (a : Bool) : F__law_is_truth [.dat (.bl a), .dat (.bl a)] = .ok (.bl true) [.dat (.bl a), .dat (.bl a)] := by cases a <;> with_unfolding_all rfl
theorem four (f : Int) (ns : List Int) (hl : ns.length ≤ 60) (hh : ∀ n ∈ ns, hint n) : ∀ d ∈ [D.tup [.bl true, .tup [.int 2147483647, .tup (ns.map .int)]], .tup [.bl false, .tup [.int 2147483648, .tup (ns.map .int)]], .tup [.bl true, .tup [.int (-2147483648), .tup (ns.map .int)]], .tup [.bl false, .lst [.int f, .tup (ns.map .int)]]],
    ∃ b t, d = .tup [.bl b, t] ∧ F_is_layout [.dat t] = .ok (.bl b) [.dat t] := by
  intro d hd
  simp only [List.mem_cons, List.not_mem_nil, or_false] at hd
  rcases hd with rfl | rfl | rfl | rfl
  · exact ⟨true, _, rfl, lay_ns _ ns hl hh⟩
  · exact ⟨false, _, rfl, lay_ns _ ns hl hh⟩
  · exact ⟨true, _, rfl, lay_ns _ ns hl hh⟩
  · exact ⟨false, _, rfl, lay_lst _ _⟩
theorem six : ∀ d ∈ [D.tup [.bl true, .int 1048576], .tup [.bl false, .int 1048577], .tup [.bl true, .int 1], .tup [.bl false, .int 0], .tup [.bl false, .non], .tup [.bl false, .bl true]], ∃ b t, d = .tup [.bl b, t] ∧ hk1 t = true ∧ okh t = b := by
  intro d hd
  simp only [List.mem_cons, List.not_mem_nil, or_false] at hd
  rcases hd with rfl | rfl | rfl | rfl | rfl | rfl <;> exact ⟨_, _, rfl, rfl, rfl⟩
theorem mem_tl {α : Type} {P : α → Prop} {x : α} {l : List α} (h : ∀ d ∈ x :: l, P d) : P x ∧ ∀ d ∈ l, P d := ⟨h x (by simp), fun d hd => h d (by simp [hd])⟩
local macro_rules | `(tactic| walk_at "ws") => `(tactic| simp (config := {dsimp := false}) only [↓w_some, ↓w_none, ↓w_oiten, ↓w_omap, ↓w_obind, ↓w_bt, ↓w_bf, ↓w_bF, ↓w_bF2, ↓w_at, ↓w_vd, ↓w_vl, ↓w_vk, ↓w_pure, ↓w_bind, ↓w_opt, ↓w_var, ↓w_cons, ↓w_op, ↓w_cmp, ↓w_bl, ↓w_bif, ↓w_chain, ↓w_chainV, ↓w_tru, ↓w_and, ↓w_or, ↓w_not, ↓w_andV, ↓w_orV, ↓w_ite, ↓w_tup, ↓w_lstX, ↓w_fz, ↓w_call, ↓w_callF, ↓w_callX, ↓w_callK, ↓w_isi, ↓w_isC, ↓w_fldN, ↓w_err1, ↓w_caught, ↓w_range1, ↓w_range2, ↓w_enum, ↓w_items, ↓w_consD, ↓w_lc, ↓w_nx, ↓w_seq, ↓w_expr, ↓w_ret, ↓w_if, ↓w_asg, ↓w_setX, ↓w_for, ↓w_par, ↓w_raise, ↓w_name, ↓w_gtup, ↓w_gcons, ↓w_gnil, t_eq, p_eq, ow_drw, ↓w_fn, ↓w_get2, ↓w_disp, ↓w_dct0, w_N, w_M, pk_some, pick_nil, pick_cons, ↓n_nx, ↓n_rt, ↓n_bk, ↓n_ct, ↓n_er, ↓l_nx, ↓l_rt, ↓l_bk, ↓l_ct, ↓l_er, ↓f_nx, ↓f_rt, ↓f_bk, ↓f_ct, ↓f_er, w_put, dats_nil, dats_cons, wx_nil, wx_dat, wx_un, wx_drw, wx_lst, wu_un, wu_dat, ww_nil, ww_cons, fr_un, fr_dat, fr_nil, fr_cons, bk_nil, bk_cons, io_lst, io_dct, io_dat, io_drw, of_lst, of_dct, of_dat, it_lst, it_rol, it_tup, tr_non, tr_bl, tr_int, tr_lst, tr_tup, a_int, a_lst, a_tup, a_str, s_int, m_int, d_int, r_int, p_int, x_int, q_int, n_int, lt_int, le_int, gt_int, ge_int, len_lst, len_rol, len_tup, int_int, abs_int, min_int, max_int, tuple_lst, tuple_rol, tuple_tup, rg_int, is_nn, ne_same, eq_same, is_nb, is_bn, isn_nn, isn_bn, isi_int_non, isi_int_bl, isi_int_int, isi_int_str, isi_int_lst, isi_int_rol, isi_int_tup, isi_int_dK, isi_bool_non, isi_bool_bl, isi_bool_int, isi_bool_str, isi_bool_lst, isi_bool_rol, isi_bool_tup, isi_bool_dK, isi_str_non, isi_str_bl, isi_str_int, isi_str_str, isi_str_lst, isi_str_rol, isi_str_tup, isi_str_dK, isi_tuple_non, isi_tuple_bl, isi_tuple_int, isi_tuple_str, isi_tuple_lst, isi_tuple_rol, isi_tuple_tup, isi_tuple_dK, isi_list_non, isi_list_bl, isi_list_int, isi_list_str, isi_list_lst, isi_list_rol, isi_list_tup, isi_list_dK, isi_dict_non, isi_dict_bl, isi_dict_int, isi_dict_str, isi_dict_lst, isi_dict_rol, isi_dict_tup, isi_dict_dK, isi_list_tuple_non, isi_list_tuple_bl, isi_list_tuple_int, isi_list_tuple_str, isi_list_tuple_lst, isi_list_tuple_rol, isi_list_tuple_tup, isi_list_tuple_dK, isi_int_str_non, isi_int_str_bl, isi_int_str_int, isi_int_str_str, isi_int_str_lst, isi_int_str_rol, isi_int_str_tup, isi_int_str_dK, is_int_n, is_int_b, isn_int_n, is_str_n, is_str_b, isn_str_n, is_lst_n, is_lst_b, isn_lst_n, is_rol_n, is_rol_b, isn_rol_n, is_tup_n, is_tup_b, isn_tup_n, is_dK_n, is_dK_b, isn_dK_n, List.getElem?_cons_zero, List.getElem?_cons_succ, List.set_cons_zero, List.set_cons_succ, List.length_cons, List.length_nil, List.reduceReplicate, List.cons_append, List.nil_append, List.append_nil, Option.getD_some, Nat.reduceAdd, Nat.reduceSub, Nat.reduceMul, Nat.reduceLT, Nat.reduceLeDiff, Nat.reduceEqDiff, Int.reduceAdd, Int.reduceSub, Int.reduceMul, Int.reduceNeg, Int.reduceLT, Int.reduceLE, Int.reduceEq, Int.reduceNe, Int.reducePow, Int.reduceToNat, Int.reduceMod, Int.reduceDiv, Int.reduceBEq, Int.reduceBNe, eq_self, and_self, and_true, true_and, decide_true, decide_false, Bool.and_self, Bool.true_and, Bool.and_true, Bool.not_true, Bool.not_false, Nat.lt_add_one, Nat.zero_lt_succ, ne_eq, not_true_eq_false, not_false_eq_true, zipK_nil, zipK_cons, dk_yes, os_some, hd_cons, si_drw, sl_io, sl_own, ix_t0, ix_t1, ix_t2, ix_t3, ix_t4, ix_t5, ix_l0, ix_l1, ix_l2, ix_l3, nc, isn_same, is_same, isn_tf, isn_ft, is_tf, is_ft, w_panil, w_pacons, Bool.false_and, Bool.and_false, Bool.or_true, Bool.true_or, Bool.false_or, Bool.or_false, ↓w_append, ↓w_brk, ↓w_cnt, ol_i, lq_dat, lq_lst, lq_dct, ↓w_listX, lx_lst, lx_rol, lx_tup, ↓w_noP, ↓w_part, prt_int, ↓w_slice, FW.sl_lst, FW.sl_rol, FW.sl_tup, ↓w_zip, zz_ll, zz_tt, w_rep, ↓w_ownNe, ↓w_ownEq, ↓w_ownLen, ↓w_ixW, ↓w_ownIx, ↓w_popW, ↓w_ownPop, la_nil, la_v, la_c, ↓w_callL, ↓w_relay, ↓w_consX, eq_n, fl_int])
local macro_rules | `(tactic| walk_at "wa") => `(tactic| first | omega | (simp only [List.length_map, List.length_append, List.length_cons, List.length_nil, rangeD_len, sizeLine_eq]; omega) | exact ⟨List.cons_ne_nil _ _, by omega⟩ | decide)
local macro_rules | `(tactic| walk_at "w1") => `(tactic| first | with_reducible refine w_takeL ?_ | with_reducible refine w_pickL ?_ | with_reducible refine w_callBi ?_ | with_reducible refine w_begun ⟨by assumption, ?_⟩ | ((with_reducible refine w_isCy ?h ?_); (case h => decide +kernel)) | ((with_reducible refine w_isCn ?h ?h2 ?_); (case h => decide +kernel); (case h2 => decide +kernel)) | ((with_reducible refine w_fldy ?v ?h ?h2 ?_); (case h => decide +kernel); (case h2 => exact rfl)) | ((with_reducible refine wpA_i ?h ?_); (case h => walk_at "wa")) | (with_reducible intro) | walk_at "ws")
local macro_rules | `(tactic| walk_at "wb") => `(tactic| repeat' (first | walk_at "w1" | with_reducible refine wpB_i (fun _ => ?_) (fun _ => ?_)))
local macro_rules | `(tactic| walk_at "wg") => `(tactic| repeat walk_at "w1")
local macro_rules | `(tactic| walk_at "wi") => `(tactic| repeat (first | exact inL_nil | refine inL_cons (by omega) ?_))
theorem pl (ns : List Int) (h : ns.length ≤ 63) : wpE F_law [.dat (.rol (ns.map .int))] (fun d _ => d = .bl true) fun _ _ _ => False := by
  unfold F_law
  walk_at "wg"
  refine wpL_inv (fun rest ρ => ∃ s2 s3 s4 s5 s6 s7 s8 s9 s10 s11 y, ρ = [.dat (.rol (ns.map .int)), Dw.sl false y, s2, s3, s4, s5, s6, s7, s8, s9, s10, s11]) ?_ ?_ ⟨_, _, _, _, _, _, _, _, _, _, _, rfl⟩
  · rintro d rest ρ ⟨s2, s3, s4, s5, s6, s7, s8, s9, s10, s11, y, rfl⟩
    walk_at "wg"
    refine wpE_mono (layout _) ?_
    rintro _ _ ⟨f, hs, y1, rfl, f0, f1, hl, hh, rfl⟩
    walk_at "wg"
    rw [wpE_ok (lay_ns f hs hl hh), decide_eq_true f0, decide_eq_true f1]
    walk_at "wg"
    refine wpE_mono (nolay _) ?_
    rintro no _ ⟨y2, hno, rfl⟩
    walk_at "wg"
    rw [wpE_ok (nolay_ok no hno)]
    walk_at "wg"
    refine wpL_inv (fun rest ρ => (∀ d ∈ rest, ∃ b t, d = .tup [.bl b, t] ∧ F_is_layout [.dat t] = .ok (.bl b) [.dat t]) ∧ ∃ s6 s7, ρ = [.dat (.rol (ns.map .int)), Dw.sl false y2, .dat d, .dat (.tup [.int f, .tup (hs.map .int)]), .dat (.int f), .dat (.tup (hs.map .int)), s6, s7, s8, s9, s10, s11]) ?_ ?_ ⟨four f hs hl hh, _, _, rfl⟩
    · rintro z rest ρ ⟨hr, s6, s7, rfl⟩
      obtain ⟨⟨b, t, rfl, q⟩, hr2⟩ := mem_tl hr
      walk_at "wg"
      rw [wpE_ok q]
      walk_at "wg"
      rw [wpE_ok (truth_same b)]
      walk_at "wg"
      exact ⟨hr2, _, _, rfl⟩
    rintro ρ ⟨_, s6, s7, rfl⟩
    walk_at "wg"
    refine wpL_inv (fun rest ρ => (∀ d ∈ rest, ∃ b t, d = .tup [.bl b, t] ∧ hk1 t = true ∧ okh t = b) ∧ ∃ s6 s8, ρ = [.dat (.rol (ns.map .int)), Dw.sl false y2, .dat d, .dat (.tup [.int f, .tup (hs.map .int)]), .dat (.int f), .dat (.tup (hs.map .int)), s6, s7, s8, s9, s10, s11]) ?_ ?_ ⟨six, _, _, rfl⟩
    · rintro z rest ρ ⟨hr, s6, s8, rfl⟩
      obtain ⟨⟨b, t, rfl, q1, rfl⟩, hr2⟩ := mem_tl hr
      walk_at "wg"
      rw [cut399 (hs.map .int) (by rw [List.length_map]; exact hl)]
      walk_at "wg"
      rw [wpE_ok (lay_one f f0 f1 hs hl hh t q1)]
      walk_at "wg"
      rw [wpE_ok (truth_same (okh t))]
      walk_at "wg"
      exact ⟨hr2, _, _, rfl⟩
    rintro ρ ⟨_, s6, s8, rfl⟩
    walk_at "wg"
    refine wpE_mono (taken _) ?_
    rintro _ _ ⟨bs, y3, rfl, ⟨hsep, hbl, hbe⟩, rfl⟩
    walk_at "wg"
    rename_i m y4 m0 m1 g1 y5 g2 g3 g4 y6 g5 g6
    refine wpL_inv (fun rest ρ => (∀ d ∈ rest, ∃ h, d = .int h ∧ 1 ≤ h ∧ h ≤ 1048585) ∧ ∃ s6 s11, ρ = [.dat (.rol (ns.map .int)), Dw.sl false y6, .dat d, .dat (.tup [.int f, .tup (hs.map .int)]), .dat (.int f), .dat (.tup (hs.map .int)), s6, s7, s8, .dat (.lst (bs.map dB)), .dat (.int (1 + m)), s11]) ?_ ?_ ⟨?_, _, _, rfl⟩
    · rintro z rest ρ ⟨hr, s6, s11, rfl⟩
      obtain ⟨⟨hi, rfl, h0, h1⟩, hr2⟩ := mem_tl hr
      have hle : fb (1 + m) (srt bs) hi - hi ≤ 1000 := by
        rcases fb_le (m := 1 + m) (S := srt bs) (b := hi) with q | ⟨x, hx, q⟩
        · omega
        · have := hbe x ((srt_perm bs).mem_iff.mp hx)
          omega
      have hge := (fb_ok (m := 1 + m) (b := hi) (by omega) hsep.srt (fun x hx => (hsep.ok x ((srt_perm bs).mem_iff.mp hx)).2.1)).1
      have eb := base_e bs (by omega) hsep (1 + m) hi (by omega) hle
      have el : F_least_base [.dat (.lst (bs.map dB)), .dat (.int (1 + m)), .dat (.int hi)] = .ok (.int (fb (1 + m) (srt bs) hi)) [.dat (.lst (bs.map dB)), .dat (.int (1 + m)), .dat (.int hi)] := lb_ok false bs (by omega) hsep.ok (tk_sep hsep) (1 + m) hi (by omega) (by omega) h0
      have et : F_least_base [.dat (.tup (bs.map dB)), .dat (.int (1 + m)), .dat (.int hi)] = .ok (.int (fb (1 + m) (srt bs) hi)) [.dat (.tup (bs.map dB)), .dat (.int (1 + m)), .dat (.int hi)] := lb_ok true bs (by omega) hsep.ok (tk_sep hsep) (1 + m) hi (by omega) (by omega) h0
      generalize fb (1 + m) (srt bs) hi = r at *
      obtain ⟨s, es⟩ := repr_sm (sm_int (i := r) (by omega)) (by decide) (by decide)
      walk_at "wg"
      rw [wpE_ok eb]
      walk_at "wg"
      rw [wpE_ok el]
      walk_at "wg"
      rw [es]
      walk_at "wg"
      rw [es]
      walk_at "wg"
      rw [wpE_ok et]
      walk_at "wg"
      exact ⟨hr2, _, _, rfl⟩
    · rintro ρ ⟨_, s6, s11, rfl⟩
      walk_at "wg"
      refine wpE_mono (placed _) ?_
      rintro _ _ ⟨y7, rfl, rfl⟩
      walk_at "wg"
      refine wpE_mono (refused _ bs (by omega) hsep) ?_
      rintro _ _ ⟨y8, rfl, rfl⟩
      walk_at "wg"
      exact ⟨_, _, _, _, _, _, _, _, _, _, _, rfl⟩
    · intro z hz
      simp only [List.mem_cons, List.not_mem_nil, or_false] at hz
      rcases hz with rfl | rfl | rfl
      · exact ⟨_, rfl, by omega, by omega⟩
      · exact ⟨_, rfl, by omega, by omega⟩
      · exact ⟨_, rfl, by omega, by omega⟩
  · rintro ρ ⟨s2, s3, s4, s5, s6, s7, s8, s9, s10, s11, y, rfl⟩
    walk_at "wg"
theorem pure_law (ns : List Int) (h : ns.length ≤ 63) (hb : ∀ z ∈ ns, Builtin.Int.intBits z ≤ 1048576) : ∃ ρ, F_law [.dat (.rol (ns.map .int))] = .ok (.bl true) ρ := wpE_get1 (pl ns h)
end
end FL

set_option Elab.async false
set_option linter.all false
set_option maxRecDepth 100000
set_option maxHeartbeats 4000000
namespace FL
open PySem PySem.Spec L2 FW
open PyProof.Rows (envOfC IntsAre AllBare)
open He (ga ma)
def fn : List He.DefD := [⟨("is_number", none), "is_number", "is_number", defArgs s_is_number, defBody s_is_number, defScope s_is_number, [], []⟩, ⟨("is_between", none), "is_between", "is_between", defArgs s_is_between, defBody s_is_between, defScope s_is_between, [], []⟩, ⟨("is_list", none), "is_list", "is_list", defArgs s_is_list, defBody s_is_list, defScope s_is_list, [], []⟩, ⟨("is_tuple", none), "is_tuple", "is_tuple", defArgs s_is_tuple, defBody s_is_tuple, defScope s_is_tuple, [], []⟩, ⟨("is_int", none), "is_int", "is_int", defArgs s_is_int, defBody s_is_int, defScope s_is_int, [], []⟩, ⟨("is_layout", none), "is_layout", "is_layout", defArgs s_is_layout, defBody s_is_layout, defScope s_is_layout, [], []⟩, ⟨("free_base", none), "free_base", "free_base", defArgs s_free_base, defBody s_free_base, defScope s_free_base, [], []⟩, ⟨("is_taken", none), "is_taken", "is_taken", defArgs s_is_taken, defBody s_is_taken, defScope s_is_taken, [], []⟩, ⟨("least_base", none), "least_base", "least_base", defArgs s_least_base, defBody s_least_base, defScope s_least_base, [], []⟩, ⟨("_law_begun", none), "_law_begun", "_law_begun", defArgs s__law_begun, defBody s__law_begun, defScope s__law_begun, [], []⟩, ⟨("_law_mixed", none), "_law_mixed", "_law_mixed", defArgs s__law_mixed, defBody s__law_mixed, defScope s__law_mixed, [], []⟩, ⟨("_law_take", none), "_law_take", "_law_take", defArgs s__law_take, defBody s__law_take, defScope s__law_take, [], []⟩, ⟨("_law_pick", none), "_law_pick", "_law_pick", defArgs s__law_pick, defBody s__law_pick, defScope s__law_pick, [], []⟩, ⟨("_law_shuffled", none), "_law_shuffled", "_law_shuffled", defArgs s__law_shuffled, defBody s__law_shuffled, defScope s__law_shuffled, [], []⟩, ⟨("_law_is_truth", none), "_law_is_truth", "_law_is_truth", defArgs s__law_is_truth, defBody s__law_is_truth, defScope s__law_is_truth, [], []⟩, ⟨("_law_caught", none), "_law_caught", "_law_caught", defArgs s__law_caught, defBody s__law_caught, defScope s__law_caught, [], []⟩, ⟨("_law_size", none), "_law_size", "_law_size", defArgs s__law_size, defBody s__law_size, defScope s__law_size, [], []⟩, ⟨("_law_layout", none), "_law_layout", "_law_layout", defArgs s__law_layout, defBody s__law_layout, defScope s__law_layout, [], []⟩, ⟨("_law_no_layout", none), "_law_no_layout", "_law_no_layout", defArgs s__law_no_layout, defBody s__law_no_layout, defScope s__law_no_layout, [], []⟩, ⟨("_law_base_of", none), "_law_base_of", "_law_base_of", defArgs s__law_base_of, defBody s__law_base_of, defScope s__law_base_of, [], []⟩, ⟨("_law_is_bad_part", none), "_law_is_bad_part", "_law_is_bad_part", defArgs s__law_is_bad_part, defBody s__law_is_bad_part, defScope s__law_is_bad_part, [], []⟩, ⟨("_law_taken", none), "_law_taken", "_law_taken", defArgs s__law_taken, defBody s__law_taken, defScope s__law_taken, [], []⟩, ⟨("_law_placed_right", none), "_law_placed_right", "_law_placed_right", defArgs s__law_placed_right, defBody s__law_placed_right, defScope s__law_placed_right, [], []⟩, ⟨("_law_refused", none), "_law_refused", "_law_refused", defArgs s__law_refused, defBody s__law_refused, defScope s__law_refused, [], []⟩, ⟨("law", none), "law", "law", defArgs s_law, defBody s_law, defScope s_law, [], []⟩]
def fa : List He.Fa := [.glo "is_number", .glo "is_between", .glo "is_list", .glo "is_tuple", .glo "is_int", .glo "is_layout", .glo "free_base", .glo "is_taken", .glo "least_base", .glo "_law_begun", .glo "_law_mixed", .glo "_law_take", .glo "_law_pick", .glo "_law_shuffled", .glo "_law_is_truth", .glo "_law_caught", .glo "_law_size", .glo "_law_layout", .glo "_law_no_layout", .glo "_law_base_of", .glo "_law_is_bad_part", .glo "_law_taken", .glo "_law_placed_right", .glo "_law_refused", .glo "law", .glo "BadLayout", .glo "BadMoment", .glo "BadNumber", .glo "BadTree", .glo "NotNow", .free "abs", .free "all", .free "bool", .free "int", .free "isinstance", .free "len", .free "list", .free "min", .free "range", .free "repr", .free "sorted", .free "super", .free "tuple", .free "zip", .int "MOST_INT" (2147483647), .int "LEAST_INT" (-2147483648), .int "MOST_HINT" (1048576), .int "MOST_HINTS" (400), .int "MOST_CELLS" (16)]
def es : List (Str × EV) := [(e_BadLayout.cls, e_BadLayout.val), (e_BadNumber.cls, e_BadNumber.val)]
def ex (K : PySem.W.Frag) : Bool := errB K PySem.Challenge.pw_firstwrong_k24_layouts_and_bases.main.file e_BadLayout && (errB K PySem.Challenge.pw_firstwrong_k24_layouts_and_bases.main.file e_BadNumber && (isCB K "BadTree" ["BadTree"] ["BadLayout", "BadMoment", "BadNumber", "NotNow", "WrongError"] && (isCB K "NotNow" ["NotNow"] ["BadLayout", "BadMoment", "BadNumber", "BadTree", "WrongError"] && (isCB K "BadNumber" ["BadNumber"] ["BadLayout", "BadMoment", "BadTree", "NotNow", "WrongError"] && (isCB K "BadLayout" ["BadLayout"] ["BadMoment", "BadNumber", "BadTree", "NotNow", "WrongError"] && (isCB K "BadMoment" ["BadMoment"] ["BadLayout", "BadNumber", "BadTree", "NotNow", "WrongError"] && (fldB K "at" ["BadTree"] && (fldB K "why" ["NotNow"] && (fldB K "part" ["BadLayout", "BadMoment", "BadNumber"] && (catB K "WrongError" ["BadLayout", "BadMoment", "BadNumber", "BadTree", "NotNow", "WrongError"]))))))))))
def tf : List He.Defn := [("_law_refused", none)]
abbrev R : PySem.W.OpenRow := PySem.W.OpenLaw.row PySem.Challenge.rw_firstwrong_k24_layouts_and_bases
abbrev hk : PySem.W.Hook := hookF 6 fa fn [] tf ex es
def ob (s : PySem.W.SharedT) : AlF := obsF 6 fa fn [] tf ex es (HandSHeadRun.getT s)
theorem ob_eq (s : PySem.W.SharedT) : ob s = hk.obs s.abs := obsF_eq (HandSHeadRun.getT_eq s)
def names0 : List PySem.Str := ["WrongError", "BadNumber", "BadTree", "BadMoment", "NotNow", "BadLayout", "LEAST_INT", "MOST_INT", "MOST_CELLS", "MOST_HINTS", "MOST_HINT", "is_number"]
def names1 : List PySem.Str := ["is_between", "is_list", "is_tuple", "is_int", "is_layout", "free_base", "is_taken", "least_base", "_law_begun", "_law_mixed", "_law_take", "_law_pick"]
def names2 : List PySem.Str := ["_law_shuffled", "_law_is_truth", "_law_caught", "_law_size", "_law_layout", "_law_no_layout", "_law_base_of", "_law_is_bad_part", "_law_taken", "_law_placed_right", "_law_refused"]
def names : List PySem.Str := names0 ++ names1 ++ names2
theorem run (w : World) : HandSHeadRun.RunEq R (PySem.W.view R.prog [40]) hk ob 6000 names w := by
  intro os
  kernel_rfl
theorem law_at {w : World} {mg : Str → Option Value} {f : Addr} {h : Heap} (Y : hk.says w h) (G : h.Ns mainGlobals mg) (hmg : mg ("law" : Str) = some (.ref f)) : ∃ K : PySem.W.Frag, K.In h ∧ LawG PySem.Challenge.rw_firstwrong_k24_layouts_and_bases w K 10 63 "_law_script" mg f h := by
  obtain ⟨K, KX, c⟩ := Y
  refine ⟨K, KX, ?_⟩
  letI : Tc := ⟨[((He.cT K ("_law_refused", none)).2, ("_law_refused.<locals>.<lambda>" : Str))]⟩
  have dd := c.x.t.d
  obtain ⟨fd_is_number, D_is_number⟩ := dd.def_ 0 rfl
  have g_is_number := He.glo_ok KX G (dd.fact 0 (f := .glo "is_number") rfl)
  obtain ⟨fd_is_between, D_is_between⟩ := dd.def_ 1 rfl
  have g_is_between := He.glo_ok KX G (dd.fact 1 (f := .glo "is_between") rfl)
  obtain ⟨fd_is_list, D_is_list⟩ := dd.def_ 2 rfl
  have g_is_list := He.glo_ok KX G (dd.fact 2 (f := .glo "is_list") rfl)
  obtain ⟨fd_is_tuple, D_is_tuple⟩ := dd.def_ 3 rfl
  have g_is_tuple := He.glo_ok KX G (dd.fact 3 (f := .glo "is_tuple") rfl)
  obtain ⟨fd_is_int, D_is_int⟩ := dd.def_ 4 rfl
  have g_is_int := He.glo_ok KX G (dd.fact 4 (f := .glo "is_int") rfl)
  obtain ⟨fd_is_layout, D_is_layout⟩ := dd.def_ 5 rfl
  have g_is_layout := He.glo_ok KX G (dd.fact 5 (f := .glo "is_layout") rfl)
  obtain ⟨fd_free_base, D_free_base⟩ := dd.def_ 6 rfl
  have g_free_base := He.glo_ok KX G (dd.fact 6 (f := .glo "free_base") rfl)
  obtain ⟨fd_is_taken, D_is_taken⟩ := dd.def_ 7 rfl
  have g_is_taken := He.glo_ok KX G (dd.fact 7 (f := .glo "is_taken") rfl)
  obtain ⟨fd_least_base, D_least_base⟩ := dd.def_ 8 rfl
  have g_least_base := He.glo_ok KX G (dd.fact 8 (f := .glo "least_base") rfl)
  obtain ⟨fd__law_begun, D__law_begun⟩ := dd.def_ 9 rfl
  have g__law_begun := He.glo_ok KX G (dd.fact 9 (f := .glo "_law_begun") rfl)
  obtain ⟨fd__law_mixed, D__law_mixed⟩ := dd.def_ 10 rfl
  have g__law_mixed := He.glo_ok KX G (dd.fact 10 (f := .glo "_law_mixed") rfl)
  obtain ⟨fd__law_take, D__law_take⟩ := dd.def_ 11 rfl
  have g__law_take := He.glo_ok KX G (dd.fact 11 (f := .glo "_law_take") rfl)
  obtain ⟨fd__law_pick, D__law_pick⟩ := dd.def_ 12 rfl
  have g__law_pick := He.glo_ok KX G (dd.fact 12 (f := .glo "_law_pick") rfl)
  obtain ⟨fd__law_shuffled, D__law_shuffled⟩ := dd.def_ 13 rfl
  have g__law_shuffled := He.glo_ok KX G (dd.fact 13 (f := .glo "_law_shuffled") rfl)
  obtain ⟨fd__law_is_truth, D__law_is_truth⟩ := dd.def_ 14 rfl
  have g__law_is_truth := He.glo_ok KX G (dd.fact 14 (f := .glo "_law_is_truth") rfl)
  obtain ⟨fd__law_caught, D__law_caught⟩ := dd.def_ 15 rfl
  have g__law_caught := He.glo_ok KX G (dd.fact 15 (f := .glo "_law_caught") rfl)
  obtain ⟨fd__law_size, D__law_size⟩ := dd.def_ 16 rfl
  have g__law_size := He.glo_ok KX G (dd.fact 16 (f := .glo "_law_size") rfl)
  obtain ⟨fd__law_layout, D__law_layout⟩ := dd.def_ 17 rfl
  have g__law_layout := He.glo_ok KX G (dd.fact 17 (f := .glo "_law_layout") rfl)
  obtain ⟨fd__law_no_layout, D__law_no_layout⟩ := dd.def_ 18 rfl
  have g__law_no_layout := He.glo_ok KX G (dd.fact 18 (f := .glo "_law_no_layout") rfl)
  obtain ⟨fd__law_base_of, D__law_base_of⟩ := dd.def_ 19 rfl
  have g__law_base_of := He.glo_ok KX G (dd.fact 19 (f := .glo "_law_base_of") rfl)
  obtain ⟨fd__law_is_bad_part, D__law_is_bad_part⟩ := dd.def_ 20 rfl
  have g__law_is_bad_part := He.glo_ok KX G (dd.fact 20 (f := .glo "_law_is_bad_part") rfl)
  obtain ⟨fd__law_taken, D__law_taken⟩ := dd.def_ 21 rfl
  have g__law_taken := He.glo_ok KX G (dd.fact 21 (f := .glo "_law_taken") rfl)
  obtain ⟨fd__law_placed_right, D__law_placed_right⟩ := dd.def_ 22 rfl
  have g__law_placed_right := He.glo_ok KX G (dd.fact 22 (f := .glo "_law_placed_right") rfl)
  obtain ⟨fd__law_refused, D__law_refused⟩ := dd.def_ 23 rfl
  have g__law_refused := He.glo_ok KX G (dd.fact 23 (f := .glo "_law_refused") rfl)
  obtain ⟨fd_law, D_law⟩ := dd.def_ 24 rfl
  have g_law := He.glo_ok KX G (dd.fact 24 (f := .glo "law") rfl)
  have ee := hmg.symm.trans g_law
  cases ee
  have cx := c.x.more
  unfold ex at cx
  obtain ⟨x0, cx⟩ := He.ba cx
  obtain ⟨x1, cx⟩ := He.ba cx
  obtain ⟨x2, cx⟩ := He.ba cx
  obtain ⟨x3, cx⟩ := He.ba cx
  obtain ⟨x4, cx⟩ := He.ba cx
  obtain ⟨x5, cx⟩ := He.ba cx
  obtain ⟨x6, cx⟩ := He.ba cx
  obtain ⟨x7, cx⟩ := He.ba cx
  obtain ⟨x8, cx⟩ := He.ba cx
  obtain ⟨x9, cx⟩ := He.ba cx
  have T : Tx PySem.Challenge.rw_firstwrong_k24_layouts_and_bases.prog K mg := {
    b_abs := He.free_ok KX G (dd.fact 30 (f := .free "abs") rfl)
    b_all := He.free_ok KX G (dd.fact 31 (f := .free "all") rfl)
    b_bool := He.free_ok KX G (dd.fact 32 (f := .free "bool") rfl)
    b_int := He.free_ok KX G (dd.fact 33 (f := .free "int") rfl)
    b_isinstance := He.free_ok KX G (dd.fact 34 (f := .free "isinstance") rfl)
    b_len := He.free_ok KX G (dd.fact 35 (f := .free "len") rfl)
    b_list := He.free_ok KX G (dd.fact 36 (f := .free "list") rfl)
    b_min := He.free_ok KX G (dd.fact 37 (f := .free "min") rfl)
    b_range := He.free_ok KX G (dd.fact 38 (f := .free "range") rfl)
    b_repr := He.free_ok KX G (dd.fact 39 (f := .free "repr") rfl)
    b_sorted := He.free_ok KX G (dd.fact 40 (f := .free "sorted") rfl)
    b_super := He.free_ok KX G (dd.fact 41 (f := .free "super") rfl)
    b_tuple := He.free_ok KX G (dd.fact 42 (f := .free "tuple") rfl)
    b_zip := He.free_ok KX G (dd.fact 43 (f := .free "zip") rfl)
    i_MOST_INT := He.int_ok KX G (dd.fact 44 (f := .int "MOST_INT" (2147483647)) rfl)
    i_LEAST_INT := He.int_ok KX G (dd.fact 45 (f := .int "LEAST_INT" (-2147483648)) rfl)
    i_MOST_HINT := He.int_ok KX G (dd.fact 46 (f := .int "MOST_HINT" (1048576)) rfl)
    i_MOST_HINTS := He.int_ok KX G (dd.fact 47 (f := .int "MOST_HINTS" (400)) rfl)
    i_MOST_CELLS := He.int_ok KX G (dd.fact 48 (f := .int "MOST_CELLS" (16)) rfl)
    e_BadLayout := errTxt_of (e := e_BadLayout) KX G x0 (c.e (e_BadLayout.cls, e_BadLayout.val) (by unfold es; simp)) (He.free_ok KX G (dd.fact 41 (f := .free "super") rfl)) (by decide +kernel) (by decide +kernel) (by decide +kernel) (by decide +kernel) (by decide +kernel) (by decide +kernel) (by decide +kernel) (by decide +kernel) (by decide +kernel) (by decide) (fun _ _ _ _ => ⟨_, rfl⟩) (fun _ _ _ _ => rfl) (fun _ _ _ _ => rfl) (by decide) (fun _ _ _ _ _ _ _ _ => rfl)
    e_BadNumber := errTxt_of (e := e_BadNumber) KX G x1 (c.e (e_BadNumber.cls, e_BadNumber.val) (by unfold es; simp)) (He.free_ok KX G (dd.fact 41 (f := .free "super") rfl)) (by decide +kernel) (by decide +kernel) (by decide +kernel) (by decide +kernel) (by decide +kernel) (by decide +kernel) (by decide +kernel) (by decide +kernel) (by decide +kernel) (by decide) (fun _ _ _ _ => ⟨_, rfl⟩) (fun _ _ _ _ => rfl) (fun _ _ _ _ => rfl) (by decide) (fun _ _ _ _ _ _ _ _ => rfl)
    c_BadTree := isCB_ok KX G x2
    g_BadTree := He.glo_ok KX G (dd.fact 28 (f := .glo "BadTree") rfl)
    c_NotNow := isCB_ok KX G x3
    g_NotNow := He.glo_ok KX G (dd.fact 29 (f := .glo "NotNow") rfl)
    c_BadNumber := isCB_ok KX G x4
    g_BadNumber := He.glo_ok KX G (dd.fact 27 (f := .glo "BadNumber") rfl)
    c_BadLayout := isCB_ok KX G x5
    g_BadLayout := He.glo_ok KX G (dd.fact 25 (f := .glo "BadLayout") rfl)
    c_BadMoment := isCB_ok KX G x6
    g_BadMoment := He.glo_ok KX G (dd.fact 26 (f := .glo "BadMoment") rfl)
    f_at := fldB_ok KX G x7
    f_why := fldB_ok KX G x8
    f_part := fldB_ok KX G x9
    cat := catB_ok KX G cx
  }
  refine ⟨fd_law, tf.map (He.cT K), spF K mg 1 F_law, fun p hp => ?_, fun p hp => ?_, fun p hp => ?_, fun s u => FunD.bindsA (ps := ["_law_script"]) D_law (fun kV doc pm an cdv ct us hl => b_law _ _ _ kV doc pm an cdv ct us hl) s [u] rfl, fun H a ns hl hb hT hS => law_sp (pure_law ns hl hb) (fun p hp => ?_) hS, fun base hK hns TB => ?_⟩
  · obtain ⟨z, hz, rfl⟩ := List.mem_map.mp hp
    exact c.x.empty z hz
  · obtain ⟨z, hz, rfl⟩ := List.mem_map.mp hp
    exact c.x.out z hz
  · obtain ⟨z, hz, rfl⟩ := List.mem_map.mp hp
    exact PySem.W.codeHd_of_K KX (c.x.hd z hz)
  · have hp2 : p ∈ [((He.cT K ("_law_refused", none)).2, ("_law_refused.<locals>.<lambda>" : Str))] := hp
    rw [List.mem_singleton.mp hp2]
    exact hT _ (List.mem_map.mpr ⟨_, by unfold tf; simp, rfl⟩)
  · have C_is_number := ok_is_number (P := PySem.Challenge.rw_firstwrong_k24_layouts_and_bases.prog) (w := w) (base := base) T   D_is_number g_is_number
    have C_is_between := ok_is_between (P := PySem.Challenge.rw_firstwrong_k24_layouts_and_bases.prog) (w := w) (base := base) T C_is_number  D_is_between g_is_between
    have C_is_list := ok_is_list (P := PySem.Challenge.rw_firstwrong_k24_layouts_and_bases.prog) (w := w) (base := base) T   D_is_list g_is_list
    have C_is_tuple := ok_is_tuple (P := PySem.Challenge.rw_firstwrong_k24_layouts_and_bases.prog) (w := w) (base := base) T   D_is_tuple g_is_tuple
    have C_is_int := ok_is_int (P := PySem.Challenge.rw_firstwrong_k24_layouts_and_bases.prog) (w := w) (base := base) T C_is_between  D_is_int g_is_int
    have C_is_layout := ok_is_layout (P := PySem.Challenge.rw_firstwrong_k24_layouts_and_bases.prog) (w := w) (base := base) T C_is_between C_is_tuple C_is_int  D_is_layout g_is_layout
    have C_free_base := ok_free_base (P := PySem.Challenge.rw_firstwrong_k24_layouts_and_bases.prog) (w := w) (base := base) T   D_free_base g_free_base
    have C_is_taken := ok_is_taken (P := PySem.Challenge.rw_firstwrong_k24_layouts_and_bases.prog) (w := w) (base := base) T C_is_between C_is_list C_is_tuple  D_is_taken g_is_taken
    have C_least_base := ok_least_base (P := PySem.Challenge.rw_firstwrong_k24_layouts_and_bases.prog) (w := w) (base := base) T C_is_between C_free_base C_is_taken  D_least_base g_least_base
    have C__law_begun := ok__law_begun (P := PySem.Challenge.rw_firstwrong_k24_layouts_and_bases.prog) (w := w) (base := base) T   D__law_begun g__law_begun
    have C__law_mixed := ok__law_mixed (P := PySem.Challenge.rw_firstwrong_k24_layouts_and_bases.prog) (w := w) (base := base) T   D__law_mixed g__law_mixed
    have C__law_take := ok__law_take (P := PySem.Challenge.rw_firstwrong_k24_layouts_and_bases.prog) (w := w) (base := base) T C__law_mixed  D__law_take g__law_take
    have C__law_pick := ok__law_pick (P := PySem.Challenge.rw_firstwrong_k24_layouts_and_bases.prog) (w := w) (base := base) T C__law_take  D__law_pick g__law_pick
    have C__law_shuffled := ok__law_shuffled (P := PySem.Challenge.rw_firstwrong_k24_layouts_and_bases.prog) (w := w) (base := base) T C__law_take  D__law_shuffled g__law_shuffled
    have C__law_is_truth := ok__law_is_truth (P := PySem.Challenge.rw_firstwrong_k24_layouts_and_bases.prog) (w := w) (base := base) T   D__law_is_truth g__law_is_truth
    have C__law_size := ok__law_size (P := PySem.Challenge.rw_firstwrong_k24_layouts_and_bases.prog) (w := w) (base := base) T C__law_take C__law_pick  D__law_size g__law_size
    have C__law_layout := ok__law_layout (P := PySem.Challenge.rw_firstwrong_k24_layouts_and_bases.prog) (w := w) (base := base) T C__law_take C__law_pick C__law_size  D__law_layout g__law_layout
    have C__law_no_layout := ok__law_no_layout (P := PySem.Challenge.rw_firstwrong_k24_layouts_and_bases.prog) (w := w) (base := base) T C__law_pick  D__law_no_layout g__law_no_layout
    have C__law_base_of := ok__law_base_of (P := PySem.Challenge.rw_firstwrong_k24_layouts_and_bases.prog) (w := w) (base := base) T   D__law_base_of g__law_base_of
    have C__law_taken := ok__law_taken (P := PySem.Challenge.rw_firstwrong_k24_layouts_and_bases.prog) (w := w) (base := base) T C__law_take C__law_pick C__law_shuffled  D__law_taken g__law_taken
    have C__law_placed_right := ok__law_placed_right (P := PySem.Challenge.rw_firstwrong_k24_layouts_and_bases.prog) (w := w) (base := base) T C_least_base C__law_taken  D__law_placed_right g__law_placed_right
    have C__law_refused := ok__law_refused (P := PySem.Challenge.rw_firstwrong_k24_layouts_and_bases.prog) (w := w) (base := base) T C_least_base C__law_pick D__law_caught g__law_caught D__law_is_bad_part g__law_is_bad_part ⟨trivial⟩ rfl (TB _ (List.mem_map.mpr ⟨("_law_refused", none), by unfold tf; simp, rfl⟩)) D__law_refused g__law_refused
    exact ok_law T C_is_layout C_least_base C__law_begun C__law_take C__law_is_truth C__law_layout C__law_no_layout C__law_base_of C__law_taken C__law_placed_right C__law_refused  D_law
end FL
open PySem PySem.W PySem.Calls PyProof.Rows
set_option maxRecDepth 100000 in
set_option maxHeartbeats 0 in
theorem PySem.Challenge.cw_firstwrong_k24_layouts_and_bases_holds : PySem.Challenge.rw_firstwrong_k24_layouts_and_bases.Holds := by
  w_on; o_law
  refine HandSHeadRun.head_any (r := OpenLaw.row PySem.Challenge.rw_firstwrong_k24_layouts_and_bases) (q := view (OpenLaw.row PySem.Challenge.rw_firstwrong_k24_layouts_and_bases).prog [40]) (H := FL.hk) (ob := FL.ob) (M := 6000) (loose := FL.names) (d := HandSHeadRun.topDef (OpenLaw.row PySem.Challenge.rw_firstwrong_k24_layouts_and_bases).prog 40) (kwd := []) FL.ob_eq
    (by kernel_rfl) (fun s => by kernel_rfl) FL.run (by kernel_rfl) (by kernel_rfl) (by kernel_rfl) (by rfl) (by first | assumption | decide +kernel) (by decide +kernel) ⟨rfl, rfl, rfl, rfl, rfl, by decide +kernel⟩ ?hw ?hc
  case hw => w_witness2
  case hc =>
    refine FW.law_walkG (l := PySem.Challenge.rw_firstwrong_k24_layouts_and_bases) (k := 10) (x := "_law_script") rfl (by kernel_rfl) ⟨rfl, by decide, by decide⟩ ?F
    intro w mg fa h Y G hmg0
    have e : (HandSHeadRun.topDef (OpenLaw.row PySem.Challenge.rw_firstwrong_k24_layouts_and_bases).prog 40).name = ("law" : PySem.Str) := by kernel_rfl
    rw [e] at hmg0
    exact FL.law_at Y G hmg0

