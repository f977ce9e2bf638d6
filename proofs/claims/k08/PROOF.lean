import PyProof.Rows.All
import Wide.All
import OpenK.AllK
import Wide.FinOn
import HandS.ForMost
import HandS.Exc
import HandS.ExcOwn
import HandS.TryOnly
import HandS.WordsExc
import HandS.IsInst
import HandS.StrMore
import HandS.Replace
import HandS.ReplaceDef
import HandS.ExcIs
import HandS.HotCalls
import HandS.ExcInit
import HandS.ExcInitHot
import HandS.ExcField
import PySem.Challenge.RW_samenames_k08_values_are_read_as_printed
set_option Elab.async false
set_option linter.all false
set_option maxRecDepth 100000
namespace DL
open PySem PySem.Spec PyProof.Rows L2

/-! ### deep data at values -/
mutual
inductive Rp (K : PySem.W.Frag) (G : Hp) : V → PyData → Prop
  | non : Rp K G .non .none
  | bl (b : Bool) : Rp K G (.bl b) (.bool b)
  | int (i : Int) : Rp K G (.int i) (.int i)
  | str (x : Str) : Rp K G (.str x) (.str x)
  | lst {a : Addr} {xs : List V} {ds : List PyData} : G a = some (.lst xs) → RpAll K G xs ds → Rp K G (.ref a) (.list ds)
  | tup {a : Addr} {xs : List V} {ds : List PyData} : SqT K G a xs → RpAll K G xs ds → Rp K G (.ref a) (.tuple ds)
inductive RpAll (K : PySem.W.Frag) (G : Hp) : List V → List PyData → Prop
  | nil : RpAll K G [] []
  | cons {v : V} {vs : List V} {d : PyData} {ds : List PyData} : Rp K G v d → RpAll K G vs ds → RpAll K G (v :: vs) (d :: ds)
end

/-- H' has all that H has -/
def Sub (H H' : Hp) : Prop := ∀ a x, H a = some x → H' a = some x
theorem Sub.refl {H : Hp} : Sub H H := fun _ _ h => h
theorem Sub.trans {A B C : Hp} (h : Sub A B) (k : Sub B C) : Sub A C := fun a x e => k a x (h a x e)
theorem Sub.upd {H : Hp} {p : Addr} {o : HO} (h : H p = none) : Sub H (upd H p o) := fun b x e => by
  rw [upd_ne (ne_of_none e h)]; exact e
theorem Rd.sub {H H' : Hp} (s : Sub H H') {a : Addr} {u : HO} (h : Rd H a u) : Rd H' a u := by
  rcases h with h | ⟨o, h⟩
  · exact .inl (s _ _ h)
  · exact .inr ⟨o, s _ _ h⟩
theorem SqT.sub {K : PySem.W.Frag} {H H' : Hp} (s : Sub H H') {a : Addr} {xs : List V} (h : SqT K H a xs) : SqT K H' a xs := by
  rcases h with h | h
  · exact .inl (Rd.sub s h)
  · exact .inr h
theorem SqL.sub {K : PySem.W.Frag} {H H' : Hp} (s : Sub H H') {a : Addr} {xs : List V} (h : SqL K H a xs) : SqL K H' a xs := by
  rcases h with h | h
  · exact .inl (Rd.sub s h)
  · exact .inr h
section
variable {K : PySem.W.Frag} {G G' : Hp}
mutual
theorem Rp.sub (s : Sub G G') : ∀ {v : V} {d : PyData}, Rp K G v d → Rp K G' v d
  | _, _, .non => .non
  | _, _, .bl b => .bl b
  | _, _, .int b => .int b
  | _, _, .str b => .str b
  | _, _, .lst h t => .lst (s _ _ h) (RpAll.sub s t)
  | _, _, .tup h t => .tup (SqT.sub s h) (RpAll.sub s t)
theorem RpAll.sub (s : Sub G G') : ∀ {v : List V} {d : List PyData}, RpAll K G v d → RpAll K G' v d
  | _, _, .nil => .nil
  | _, _, .cons h t => .cons (Rp.sub s h) (RpAll.sub s t)
end
mutual
theorem Rp.dp : ∀ {v : V} {d : PyData}, Rp K G v d → Dp K G v d
  | _, _, .non => .non
  | _, _, .bl b => .bl b
  | _, _, .int b => .int b
  | _, _, .str b => .str b
  | _, _, .lst h t => .lst (.inl (.inl h)) (RpAll.dp t)
  | _, _, .tup h t => .tup h (RpAll.dp t)
theorem RpAll.dp : ∀ {v : List V} {d : List PyData}, RpAll K G v d → DpAll K G v d
  | _, _, .nil => .nil
  | _, _, .cons h t => .cons (Rp.dp h) (RpAll.dp t)
end
theorem RpAll.len : ∀ {v : List V} {d : List PyData}, RpAll K G v d → v.length = d.length
  | _, _, .nil => rfl
  | _, _, .cons _ t => congrArg (· + 1) (RpAll.len t)
theorem RpAll.get : ∀ {v : List V} {d : List PyData} {i : Nat} {x : V}, RpAll K G v d → v[i]? = some x → ∃ y, d[i]? = some y ∧ Rp K G x y
  | _, _, _, _, .nil, e => by simp at e
  | _, _, 0, _, .cons r _, e => by simp at e; subst e; exact ⟨_, rfl, r⟩
  | _, _, i + 1, x, .cons _ t, e => by
    obtain ⟨u, h1, h2⟩ := RpAll.get (i := i) (x := x) t (by simpa using e)
    exact ⟨u, by simpa using h1, h2⟩
theorem RpAll.get' : ∀ {v : List V} {d : List PyData} {i : Nat} {y : PyData}, RpAll K G v d → d[i]? = some y → ∃ x, v[i]? = some x ∧ Rp K G x y
  | _, _, _, _, .nil, e => by simp at e
  | _, _, 0, _, .cons r _, e => by simp at e; subst e; exact ⟨_, rfl, r⟩
  | _, _, i + 1, x, .cons _ t, e => by
    obtain ⟨u, h1, h2⟩ := RpAll.get' (i := i) (y := x) t (by simpa using e)
    exact ⟨u, by simpa using h1, h2⟩
theorem RpAll.append : ∀ {v w : List V} {d e : List PyData}, RpAll K G v d → RpAll K G w e → RpAll K G (v ++ w) (d ++ e)
  | _, _, _, _, .nil, s => s
  | _, _, _, _, .cons r t, s => .cons r (RpAll.append t s)
theorem RpAll.take : ∀ {v : List V} {d : List PyData} (n : Nat), RpAll K G v d → RpAll K G (v.take n) (d.take n)
  | _, _, 0, _ => .nil
  | _, _, _ + 1, .nil => .nil
  | _, _, n + 1, .cons r t => .cons r (RpAll.take n t)
theorem RpAll.drop : ∀ {v : List V} {d : List PyData} (n : Nat), RpAll K G v d → RpAll K G (v.drop n) (d.drop n)
  | _, _, 0, r => r
  | _, _, _ + 1, .nil => .nil
  | _, _, n + 1, .cons _ t => RpAll.drop n t
theorem RpAll.set {x : V} {u : PyData} (r : Rp K G x u) : ∀ {xs : List V} {us : List PyData} (i : Nat), RpAll K G xs us → RpAll K G (xs.set i x) (us.set i u)
  | _, _, _, .nil => .nil
  | _, _, 0, .cons _ t => .cons r t
  | _, _, i + 1, .cons q t => .cons q (RpAll.set r i t)
theorem RpAll.ints : ∀ {ns : List Int}, RpAll K G (ns.map V.int) (ns.map PyData.int)
  | [] => .nil
  | _ :: _ => .cons (.int _) RpAll.ints
theorem RpAll.strs : ∀ {ns : List Str}, RpAll K G (ns.map V.str) (ns.map PyData.str)
  | [] => .nil
  | _ :: _ => .cons (.str _) RpAll.strs
theorem RpAll.of_ints : ∀ {ns : List Int} {v : List V}, RpAll K G v (ns.map PyData.int) → v = ns.map V.int
  | [], _, .nil => rfl
  | _ :: _, _, .cons h t => by cases h; rw [RpAll.of_ints t]; rfl
theorem RpAll.of_strs : ∀ {ns : List Str} {v : List V}, RpAll K G v (ns.map PyData.str) → v = ns.map V.str
  | [], _, .nil => rfl
  | _ :: _, _, .cons h t => by cases h; rw [RpAll.of_strs t]; rfl
end

/-! ### owned contents, slots, objects -/
/-- what an owned thing of a name holds -/
inductive Cont where
  | lst (ds : List PyData)
  | dic (kvs : List (Key × PyData))
def COk (K : PySem.W.Frag) (G : Hp) : HO → Cont → Prop
  | .lst xs, .lst ds => RpAll K G xs ds
  | .dK kvs, .dic ps => Paired (fun (p : Key × V) (q : Key × PyData) => p.1 = q.1 ∧ Rp K G p.2 q.2) kvs ps
  | _, _ => False
theorem COk.sub {K : PySem.W.Frag} {G G' : Hp} (s : Sub G G') : ∀ {h : HO} {c : Cont}, COk K G h c → COk K G' h c := fun {h c} x => by
  cases c with
  | lst ds => cases h <;> first | exact RpAll.sub s x | exact x.elim
  | dic ps => cases h <;> first | exact Paired.mapP x (fun a b z => ⟨z.1, Rp.sub s z.2⟩) | exact x.elim
/-- what a name is known to hold -/
inductive Sl where
  | no
  | val (d : PyData)
  | raw (v : V)
  | own (c : Cont)
/-- objects that others may change: their footprint, what holds of them -/
structure Ob where
  fp : Addr → Prop
  ok : Hp → Hp → Prop
  st : ∀ G H G' H', ok G H → Sub G G' → (∀ a, fp a → H' a = H a) → ok G' H'
def Ob.emp : Ob := ⟨fun _ => False, fun _ _ => True, fun _ _ _ _ _ _ _ => trivial⟩

def SlOk (K : PySem.W.Frag) (G H : Hp) (ov : Option V) : Sl → Prop
  | .no => True
  | .val d => ∃ v, ov = some v ∧ Rp K G v d
  | .raw u => ov = some u
  | .own c => ∃ p h, ov = some (.ref p) ∧ G p = none ∧ H p = some h ∧ COk K G h c
def OwnAt (ρ : List Sl) (σ : L2.St) (i : Nat) (p : Addr) : Prop := (∃ c, ρ[i]? = some (.own c)) ∧ σ[i]? = some (some (.ref p))
def Own (ρ : List Sl) (σ : L2.St) (p : Addr) : Prop := ∃ i, OwnAt ρ σ i p

structure Wd (o : Ob) (G H : Hp) : Prop where
  sub : Sub G H
  nfp : ∀ a, o.fp a → G a = none
  occ : ∀ a, o.fp a → ∃ x, H a = some x
  ok : o.ok G H
structure EnB (K : PySem.W.Frag) (o : Ob) (ρ : List Sl) (G : Hp) (σ : L2.St) (H : Hp) : Prop where
  wd : Wd o G H
  len : σ.length = ρ.length
  sl : ∀ (i : Nat) (s : Sl), ρ[i]? = some s → ∃ ov, σ[i]? = some ov ∧ SlOk K G H ov s
  dis : ∀ (i j : Nat) (p : Addr), OwnAt ρ σ i p → OwnAt ρ σ j p → i = j
  onf : ∀ p, Own ρ σ p → ¬ o.fp p

/-- what a piece of the run keeps -/
structure Stp (ρ : List Sl) (σ : L2.St) (o : Ob) (G H : Hp) (ρ' : List Sl) (σ' : L2.St) (o' : Ob) (G' H' : Hp) : Prop where
  g : Sub G G'
  h : ∀ a x, H a = some x → ¬ o.fp a → ¬ Own ρ σ a → H' a = some x
  n : ∀ a, G a = none → (∃ x, H a = some x) → ¬ o.fp a → ¬ Own ρ σ a → G' a = none
  f : ∀ a, o'.fp a → o.fp a ∨ H a = none ∨ Own ρ σ a
  w : ∀ a, Own ρ' σ' a → Own ρ σ a ∨ H a = none ∨ o.fp a
theorem Stp.refl {ρ : List Sl} {σ : L2.St} {o : Ob} {G H : Hp} : Stp ρ σ o G H ρ σ o G H :=
  ⟨Sub.refl, fun _ _ e _ _ => e, fun _ e _ _ _ => e, fun _ e => .inl e, fun _ e => .inl e⟩
section
variable {K : PySem.W.Frag} {ρ ρ' ρ'' : List Sl} {σ σ' σ'' : L2.St} {o o' o'' : Ob} {G H G' H' G'' H'' : Hp}
theorem Stp.trans (a : Stp ρ σ o G H ρ' σ' o' G' H') (b : Stp ρ' σ' o' G' H' ρ'' σ'' o'' G'' H'') : Stp ρ σ o G H ρ'' σ'' o'' G'' H'' := by
  have nf : ∀ c x, H c = some x → ¬ o.fp c → ¬ Own ρ σ c → ¬ o'.fp c := fun c x e h1 h2 z => by
    rcases a.f c z with q | q | q
    · exact h1 q
    · rw [q] at e; cases e
    · exact h2 q
  have nw : ∀ c x, H c = some x → ¬ o.fp c → ¬ Own ρ σ c → ¬ Own ρ' σ' c := fun c x e h1 h2 z => by
    rcases a.w c z with q | q | q
    · exact h2 q
    · rw [q] at e; cases e
    · exact h1 q
  refine ⟨a.g.trans b.g, fun c x e h1 h2 => b.h c x (a.h c x e h1 h2) (nf c x e h1 h2) (nw c x e h1 h2), fun c e ⟨x, ex⟩ h1 h2 => ?_, fun c z => ?_, fun c z => ?_⟩
  · exact b.n c (a.n c e ⟨x, ex⟩ h1 h2) ⟨x, a.h c x ex h1 h2⟩ (nf c x ex h1 h2) (nw c x ex h1 h2)
  · by_cases h1 : o.fp c
    · exact .inl h1
    by_cases h2 : Own ρ σ c
    · exact .inr (.inr h2)
    refine .inr (.inl ?_)
    cases q : H c with
    | none => rfl
    | some x =>
      have hx := a.h c x q h1 h2
      rcases b.f c z with r | r | r
      · exact absurd r (nf c x q h1 h2)
      · rw [r] at hx; cases hx
      · exact absurd r (nw c x q h1 h2)
  · by_cases h1 : o.fp c
    · exact .inr (.inr h1)
    by_cases h2 : Own ρ σ c
    · exact .inl h2
    refine .inr (.inl ?_)
    cases q : H c with
    | none => rfl
    | some x =>
      have hx := a.h c x q h1 h2
      rcases b.w c z with r | r | r
      · exact absurd r (nw c x q h1 h2)
      · rw [r] at hx; cases hx
      · exact absurd r (nf c x q h1 h2)
end

abbrev RE := List Sl → Ob → Prop
/-- an exception: its class, its attributes -/
abbrev Ex := Value × Option (List (Str × PyData))
def EOk (K : PySem.W.Frag) (G H : Hp) : Option Addr → Option (List (Str × PyData)) → Prop
  | none, none => True
  | some d, some fs => ∃ vs : List (Str × V), G d = some (.xd vs) ∧ vs.map (·.1) = fs.map (·.1) ∧ RpAll K G (vs.map (·.2)) (fs.map (·.2))
  | _, _ => False
/-- the written part; the wish of the machine about what is raised; what is known of it -/
structure Kx where
  K : PySem.W.Frag
  W : WX
  Z : Ex → RE
instance : CoeOut Kx PySem.W.Frag := ⟨fun k => k.K⟩
def WOk (K : Kx) (o : Ob) (ρ : List Sl) (G : Hp) (σ : L2.St) (H : Hp) : Prop :=
  ∀ cls fs d ρ' o' G' σ' H', K.Z (cls, fs) ρ' o' → Stp ρ σ o G H ρ' σ' o' G' H' → EnB K o' ρ' G' σ' H' → EOk K G' H' d fs → K.W cls d σ' H'
theorem WOk.step {K : Kx} {ρ ρ' : List Sl} {σ σ' : L2.St} {o o' : Ob} {G H G' H' : Hp} (w : WOk K o ρ G σ H) (s : Stp ρ σ o G H ρ' σ' o' G' H') : WOk K o' ρ' G' σ' H' :=
  fun cls fs d ρ'' o'' G'' σ'' H'' z s' e => w cls fs d ρ'' o'' G'' σ'' H'' z (s.trans s') e
structure En (K : Kx) (o : Ob) (ρ : List Sl) (G : Hp) (σ : L2.St) (H : Hp) : Prop extends EnB K o ρ G σ H where
  wo : WOk K o ρ G σ H

/-! ### values of expressions -/
inductive DV where
  | d (x : PyData)
  | raw (v : V)
  | sl (i : Nat) (c : Cont)
  | new (c : Cont)
def VOk (K : PySem.W.Frag) (o : Ob) (ρ : List Sl) (G : Hp) (σ : L2.St) (H : Hp) (v : V) : DV → Prop
  | .d x => Rp K G v x
  | .raw u => v = u
  | .sl i c => σ[i]? = some (some v) ∧ ρ[i]? = some (.own c)
  | .new c => ∃ p h, v = .ref p ∧ G p = none ∧ H p = some h ∧ COk K G h c ∧ ¬ o.fp p ∧ ¬ Own ρ σ p
/-- a value that is still the same in another environment -/
def Kept (ρ : List Sl) : DV → Prop
  | .sl i c => ρ[i]? = some (.own c)
  | _ => True
section
variable {K : PySem.W.Frag} {ρ ρ' ρ'' : List Sl} {σ σ' σ'' : L2.St} {o o' o'' : Ob} {G H G' H' G'' H'' : Hp}
theorem VOk.step {v : V} {dv : DV} (x : VOk K o ρ G σ H v dv) (s : Stp ρ σ o G H ρ' σ o' G' H') (k : Kept ρ' dv) : VOk K o' ρ' G' σ H' v dv := by
  cases dv with
  | d x' => exact Rp.sub s.g x
  | raw u => exact x
  | sl i c => exact ⟨x.1, k⟩
  | new c =>
    obtain ⟨p, h, rfl, e1, e2, ok, h1, h2⟩ := x
    refine ⟨p, h, rfl, s.n p e1 ⟨_, e2⟩ h1 h2, s.h p _ e2 h1 h2, ok.sub s.g, fun z => ?_, fun z => ?_⟩
    · rcases s.f p z with r | r | r
      · exact h1 r
      · rw [r] at e2; cases e2
      · exact h2 r
    · rcases s.w p z with r | r | r
      · exact h2 r
      · rw [r] at e2; cases e2
      · exact h1 r
end

/-- a fresh thing was not there at the start -/
def VFr (ρ : List Sl) (σ : L2.St) (o : Ob) (H : Hp) (v : V) : DV → Prop
  | .new _ => ∀ p, v = .ref p → H p = none ∨ o.fp p ∨ Own ρ σ p
  | _ => True
section
variable {K : PySem.W.Frag} {ρ ρ' ρ'' : List Sl} {σ σ' σ'' : L2.St} {o o' o'' : Ob} {G H G' H' G'' H'' : Hp}
theorem Stp.old (a : Stp ρ σ o G H ρ' σ' o' G' H') {p : Addr} (h : H' p = none ∨ o'.fp p ∨ Own ρ' σ' p) : H p = none ∨ o.fp p ∨ Own ρ σ p := by
  by_cases h1 : o.fp p
  · exact .inr (.inl h1)
  by_cases h2 : Own ρ σ p
  · exact .inr (.inr h2)
  refine .inl ?_
  cases q : H p with
  | none => rfl
  | some x =>
    have hx := a.h p x q h1 h2
    rcases h with r | r | r
    · rw [r] at hx; cases hx
    · rcases a.f p r with z | z | z
      · exact absurd z h1
      · rw [z] at q; cases q
      · exact absurd z h2
    · rcases a.w p r with z | z | z
      · exact absurd z h2
      · rw [z] at q; cases q
      · exact absurd z h1
theorem VFr.back {v : V} {dv : DV} (a : Stp ρ σ o G H ρ' σ' o' G' H') (h : VFr ρ' σ' o' H' v dv) : VFr ρ σ o H v dv := by
  cases dv with
  | new c => exact fun p e => a.old (h p e)
  | _ => trivial
end
abbrev RD := DV → List Sl → Ob → Prop
/-- the end of an expression -/
def XQ (K : Kx) (ρ : List Sl) (o : Ob) (G : Hp) (σ : L2.St) (H : Hp) (R : RD) (Q : VK) : Prop :=
  ∀ v dv ρ' o' G' H', R dv ρ' o' → Stp ρ σ o G H ρ' σ o' G' H' → En K o' ρ' G' σ H' → VOk K o' ρ' G' σ H' v dv → VFr ρ σ o H v dv → Q v H'
/-- an expression, deeply -/
def XE (K : Kx) (te : TE) (ρ : List Sl) (o : Ob) (R : RD) : Prop :=
  ∀ G σ H, En K o ρ G σ H → ∀ Q : VK, XQ K ρ o G σ H R Q → te σ H Q
/-- a test -/
def XT (K : Kx) (tt : TT) (ρ : List Sl) (o : Ob) (R : Bool → RE) : Prop :=
  ∀ G σ H, En K o ρ G σ H → ∀ Q : Bool → Hp → Prop, (∀ b ρ' o' G' H', R b ρ' o' → Stp ρ σ o G H ρ' σ o' G' H' → En K o' ρ' G' σ H' → Q b H') → tt σ H Q
inductive VAll (K : PySem.W.Frag) (o : Ob) (ρ : List Sl) (G : Hp) (σ : L2.St) (H : Hp) : List V → List DV → Prop
  | nil : VAll K o ρ G σ H [] []
  | cons {v : V} {vs : List V} {d : DV} {ds : List DV} : VOk K o ρ G σ H v d → VAll K o ρ G σ H vs ds → VAll K o ρ G σ H (v :: vs) (d :: ds)
/-- arguments -/
def XA (K : Kx) (ta : TA) (ρ : List Sl) (o : Ob) (R : List DV → RE) : Prop :=
  ∀ G σ H, En K o ρ G σ H → ∀ Q : List V → Hp → Prop, (∀ vs dvs ρ' o' G' H', R dvs ρ' o' → Stp ρ σ o G H ρ' σ o' G' H' → En K o' ρ' G' σ H' → VAll K o' ρ' G' σ H' vs dvs → Q vs H') → ta σ H Q
/-- a statement -/
def XS (K : Kx) (ts : TS) (ρ : List Sl) (o : Ob) (N : RE) (R : RD) (B C : RE) : Prop :=
  ∀ G σ H, En K o ρ G σ H → ∀ D : Ends,
    (∀ ρ' o' G' σ' H', N ρ' o' → Stp ρ σ o G H ρ' σ' o' G' H' → En K o' ρ' G' σ' H' → D.nx σ' H') →
    (∀ v dv ρ' o' G' σ' H', R dv ρ' o' → Stp ρ σ o G H ρ' σ' o' G' H' → En K o' ρ' G' σ' H' → VOk K o' ρ' G' σ' H' v dv → VFr ρ σ o H v dv → D.rt v H') →
    (∀ ρ' o' G' σ' H', B ρ' o' → Stp ρ σ o G H ρ' σ' o' G' H' → En K o' ρ' G' σ' H' → D.bk σ' H') →
    (∀ ρ' o' G' σ' H', C ρ' o' → Stp ρ σ o G H ρ' σ' o' G' H' → En K o' ρ' G' σ' H' → D.ct σ' H') → ts D σ H
/-- a target -/
def XG (K : Kx) (tg : TG) (dv : DV) (ρ : List Sl) (o : Ob) (N : RE) : Prop :=
  ∀ G σ H v, En K o ρ G σ H → VOk K o ρ G σ H v dv → ∀ Q : L2.St → Hp → Prop,
    (∀ ρ' o' G' σ' H', N ρ' o' → Stp ρ σ o G H ρ' σ' o' G' H' → En K o' ρ' G' σ' H' → Q σ' H') → tg v σ H Q
def XGs (K : Kx) (tg : TGs) (dvs : List DV) (ρ : List Sl) (o : Ob) (N : RE) : Prop :=
  ∀ G σ H vs, En K o ρ G σ H → VAll K o ρ G σ H vs dvs → ∀ Q : L2.St → Hp → Prop,
    (∀ ρ' o' G' σ' H', N ρ' o' → Stp ρ σ o G H ρ' σ' o' G' H' → En K o' ρ' G' σ' H' → Q σ' H') → tg vs σ H Q
end DL

set_option Elab.async false
set_option linter.all false
set_option maxRecDepth 100000
namespace DL
open PySem PySem.Spec PyProof.Rows L2
section
variable {K : Kx} {ρ ρ' ρ'' : List Sl} {σ σ' σ'' : L2.St} {o o' o'' : Ob} {G H G' H' G'' H'' : Hp} {p : Addr} {x : HO}

/-! ### environments and steps -/
theorem SlOk.step {K : PySem.W.Frag} {ov : Option V} {s : Sl} (h : SlOk K G H ov s) (g : Sub G G') (k : ∀ q c, s = .own c → ov = some (.ref q) → G' q = none ∧ H' q = H q) : SlOk K G' H' ov s := by
  cases s with
  | no => trivial
  | val d => obtain ⟨v, e, r⟩ := h; exact ⟨v, e, Rp.sub g r⟩
  | raw u => exact h
  | own c =>
    obtain ⟨q, y, e, h1, h2, ok⟩ := h
    obtain ⟨k1, k2⟩ := k q c rfl e
    exact ⟨q, y, e, k1, k2.trans h2, ok.sub g⟩
theorem En.own_at (e : En K o ρ G σ H) {i : Nat} {c : Cont} (h : ρ[i]? = some (.own c)) : ∃ q y, σ[i]? = some (some (.ref q)) ∧ G q = none ∧ H q = some y ∧ COk K G y c ∧ ¬ o.fp q := by
  obtain ⟨ov, h1, h2⟩ := e.sl i _ h
  obtain ⟨q, y, rfl, g, hh, ok⟩ := h2
  exact ⟨q, y, h1, g, hh, ok, e.onf q ⟨i, ⟨c, h⟩, h1⟩⟩
theorem En.occ_own (e : En K o ρ G σ H) (h : Own ρ σ p) : G p = none ∧ ∃ y, H p = some y := by
  obtain ⟨i, ⟨c, hc⟩, hs⟩ := h
  obtain ⟨q, y, h1, h2, h3, _⟩ := e.own_at hc
  rw [hs] at h1
  cases h1
  exact ⟨h2, y, h3⟩
/-- the heap moves, the names stay -/
theorem En.step (e : En K o ρ G σ H) (s : Stp ρ σ o G H ρ σ o' G' H') (w : Wd o' G' H') (k : ∀ a, Own ρ σ a → G' a = none ∧ H' a = H a ∧ ¬ o'.fp a) : En K o' ρ G' σ H' where
  wo := e.wo.step s
  wd := w
  len := e.len
  sl := fun i s' h => by
    obtain ⟨ov, h1, h2⟩ := e.sl i s' h
    refine ⟨ov, h1, h2.step s.g fun q c hs hv => ?_⟩
    subst hs
    obtain ⟨a, b, _⟩ := k q ⟨i, ⟨c, h⟩, by rw [h1, hv]⟩
    exact ⟨a, b⟩
  dis := e.dis
  onf := fun a h => (k a h).2.2
theorem Wd.newF (e : Wd o G H) (hp : H p = none) : Wd o (upd G p x) (upd H p x) where
  sub := fun b y h => by
    by_cases hb : b = p
    · subst hb; rw [upd_same] at h ⊢; exact h
    · rw [upd_ne hb] at h ⊢; exact e.sub _ _ h
  nfp := fun a h => by
    obtain ⟨y, hy⟩ := e.occ a h
    rw [upd_ne (ne_of_none hy hp)]; exact e.nfp a h
  occ := fun a h => by
    obtain ⟨y, hy⟩ := e.occ a h
    exact ⟨y, by rw [upd_ne (ne_of_none hy hp)]; exact hy⟩
  ok := by
    have gp : G p = none := by
      cases q : G p with
      | none => rfl
      | some y => have := e.sub _ _ q; rw [hp] at this; cases this
    exact o.st _ _ _ _ e.ok (Sub.upd gp) fun a h => by
      obtain ⟨y, hy⟩ := e.occ a h
      exact upd_ne (ne_of_none hy hp)
theorem Wd.newO (e : Wd o G H) (hp : H p = none) : Wd o G (upd H p x) where
  sub := e.sub.trans (Sub.upd hp)
  nfp := e.nfp
  occ := fun a h => by
    obtain ⟨y, hy⟩ := e.occ a h
    exact ⟨y, by rw [upd_ne (ne_of_none hy hp)]; exact hy⟩
  ok := o.st _ _ _ _ e.ok Sub.refl fun a h => by
      obtain ⟨y, hy⟩ := e.occ a h
      exact upd_ne (ne_of_none hy hp)
theorem Wd.gnone (e : Wd o G H) (hp : H p = none) : G p = none := by
  cases q : G p with
  | none => rfl
  | some y => have := e.sub _ _ q; rw [hp] at this; cases this
theorem Stp.newF (w : Wd o G H) (hp : H p = none) : Stp ρ σ o G H ρ σ o (upd G p x) (upd H p x) where
  g := Sub.upd (w.gnone hp)
  h := fun a y e _ _ => by rw [upd_ne (ne_of_none e hp)]; exact e
  n := fun a e ⟨y, hy⟩ _ _ => by rw [upd_ne (ne_of_none hy hp)]; exact e
  f := fun a e => .inl e
  w := fun a e => .inl e
theorem Stp.newO (hp : H p = none) : Stp ρ σ o G H ρ σ o G (upd H p x) where
  g := Sub.refl
  h := fun a y e _ _ => by rw [upd_ne (ne_of_none e hp)]; exact e
  n := fun a e _ _ _ => e
  f := fun a e => .inl e
  w := fun a e => .inl e
theorem En.newF (e : En K o ρ G σ H) (hp : H p = none) : En K o ρ (upd G p x) σ (upd H p x) :=
  e.step (Stp.newF e.wd hp) (e.wd.newF hp) fun a h => by
    obtain ⟨g, y, hy⟩ := e.occ_own h
    have n := ne_of_none hy hp
    exact ⟨by rw [upd_ne n]; exact g, upd_ne n, e.onf a h⟩
theorem En.newO (e : En K o ρ G σ H) (hp : H p = none) : En K o ρ G σ (upd H p x) :=
  e.step (Stp.newO hp) (e.wd.newO hp) fun a h => by
    obtain ⟨g, y, hy⟩ := e.occ_own h
    exact ⟨g, upd_ne (ne_of_none hy hp), e.onf a h⟩
/-- an untouched object is frozen -/
theorem En.frz (e : En K o ρ G σ H) (hG : G p = none) (hH : H p = some x) (nf : ¬ o.fp p) (no : ¬ Own ρ σ p) (wo : WOk K o ρ (upd G p x) σ H) : En K o ρ (upd G p x) σ H := by
  have s : Sub G (upd G p x) := Sub.upd hG
  have wd : Wd o (upd G p x) H := by
    refine ⟨fun b y h => ?_, fun a h => ?_, e.wd.occ, o.st _ _ _ _ e.wd.ok s fun _ _ => rfl⟩
    · by_cases hb : b = p
      · subst hb; rw [upd_same] at h; rw [hH]; exact h
      · rw [upd_ne hb] at h; exact e.wd.sub _ _ h
    · rw [upd_ne (show a ≠ p from fun z => nf (by rw [← z]; exact h))]; exact e.wd.nfp a h
  refine ⟨⟨wd, e.len, fun i s' h => ?_, e.dis, e.onf⟩, wo⟩
  obtain ⟨ov, h1, h2⟩ := e.sl i s' h
  refine ⟨ov, h1, h2.step s fun q c hs hv => ⟨?_, rfl⟩⟩
  subst hs
  have ow : Own ρ σ q := ⟨i, ⟨c, h⟩, by rw [h1, hv]⟩
  rw [upd_ne (show q ≠ p from fun z => no (by rw [← z]; exact ow))]
  exact (e.occ_own ow).1
theorem Stp.frz (s : Stp ρ σ o G H ρ' σ' o' G' H') (hG : G' p = none) (fr : H p = none ∨ o.fp p ∨ Own ρ σ p) : Stp ρ σ o G H ρ' σ' o' (upd G' p x) H' := by
  refine ⟨s.g.trans (Sub.upd hG), s.h, fun a h ⟨y, hy⟩ h1 h2 => ?_, s.f, s.w⟩
  have n : a ≠ p := fun z => by
    subst z
    rcases fr with q | q | q
    · rw [hy] at q; cases q
    · exact h1 q
    · exact h2 q
  rw [upd_ne n]
  exact s.n a h ⟨y, hy⟩ h1 h2
/-- an owned list of a name is frozen -/
theorem En.frzS (e : En K o ρ G σ H) {i : Nat} {ds : List PyData} (h : ρ[i]? = some (.own (.lst ds))) :
    ∃ p xs, σ[i]? = some (some (.ref p)) ∧ RpAll K (upd G p (.lst xs)) xs ds ∧ En K o (ρ.set i (.val (.list ds))) (upd G p (.lst xs)) σ H ∧ Stp ρ σ o G H (ρ.set i (.val (.list ds))) σ o (upd G p (.lst xs)) H := by
  obtain ⟨p, y, h1, h2, h3, ok, nf⟩ := e.own_at h
  have hi : i < ρ.length := (List.getElem?_eq_some_iff.mp h).1
  have own : Own ρ σ p := ⟨i, ⟨_, h⟩, h1⟩
  obtain ⟨xs, rfl⟩ : ∃ xs, y = .lst xs := by cases y <;> first | exact ⟨_, rfl⟩ | exact ok.elim
  have s : Sub G (upd G p (.lst xs)) := Sub.upd h2
  have back : ∀ j q, OwnAt (ρ.set i (.val (.list ds))) σ j q → OwnAt ρ σ j q ∧ j ≠ i := fun j q ⟨⟨c, hc⟩, hs⟩ => by
    by_cases hj : j = i
    · subst hj; rw [List.getElem?_set_self hi] at hc; cases hc
    · rw [List.getElem?_set_ne (Ne.symm hj)] at hc; exact ⟨⟨⟨c, hc⟩, hs⟩, hj⟩
  have stp : Stp ρ σ o G H (ρ.set i (.val (.list ds))) σ o (upd G p (.lst xs)) H := by
    refine ⟨s, fun a y h _ _ => h, fun a h he h1 h2 => ?_, fun a h => .inl h, fun a ⟨j, hq⟩ => .inl ⟨j, (back j a hq).1⟩⟩
    rw [upd_ne (show a ≠ p from fun z => h2 (by rw [z]; exact own))]; exact h
  refine ⟨p, xs, h1, RpAll.sub s ok, ⟨⟨⟨fun b z hb => ?_, fun a ha => ?_, e.wd.occ, o.st _ _ _ _ e.wd.ok s fun _ _ => rfl⟩, by simpa using e.len, fun j s' hj => ?_, fun j k q a b => e.dis j k q (back j q a).1 (back k q b).1, fun q ⟨j, hq⟩ => e.onf q ⟨j, (back j q hq).1⟩⟩, e.wo.step stp⟩, stp⟩
  · by_cases hbp : b = p
    · subst hbp; rw [upd_same] at hb; rw [h3]; exact hb
    · rw [upd_ne hbp] at hb; exact e.wd.sub _ _ hb
  · rw [upd_ne (show a ≠ p from fun z => nf (by rw [← z]; exact ha))]; exact e.wd.nfp a ha
  · by_cases hji : j = i
    · subst hji
      rw [List.getElem?_set_self hi] at hj
      cases hj
      exact ⟨_, h1, _, rfl, .lst upd_same (RpAll.sub s ok)⟩
    · rw [List.getElem?_set_ne (Ne.symm hji)] at hj
      obtain ⟨ov, k1, k2⟩ := e.sl j s' hj
      refine ⟨ov, k1, k2.step s fun q c hs hv => ⟨?_, rfl⟩⟩
      subst hs
      have oa : OwnAt ρ σ j q := ⟨⟨c, hj⟩, by rw [k1, hv]⟩
      rw [upd_ne (show q ≠ p from fun z => hji (e.dis j i p (by rw [← z]; exact oa) ⟨⟨_, h⟩, h1⟩))]
      exact (e.occ_own ⟨j, oa⟩).1
/-- an owned thing of a name changes -/
theorem En.mut (e : En K o ρ G σ H) {i : Nat} {c c' : Cont} {y : HO} (h : ρ[i]? = some (.own c)) (hs : σ[i]? = some (some (.ref p))) (ok : COk K G y c') :
    En K o (ρ.set i (.own c')) G σ (upd H p y) ∧ Stp ρ σ o G H (ρ.set i (.own c')) σ o G (upd H p y) := by
  have hi : i < ρ.length := (List.getElem?_eq_some_iff.mp h).1
  obtain ⟨q, z, h1, h2, h3, _, nf⟩ := e.own_at h
  rw [hs] at h1
  cases h1
  have own : Own ρ σ p := ⟨i, ⟨_, h⟩, hs⟩
  have back : ∀ j q, OwnAt (ρ.set i (.own c')) σ j q → OwnAt ρ σ j q := fun j q ⟨⟨c, hc⟩, hz⟩ => by
    by_cases hj : j = i
    · subst hj; exact ⟨⟨_, h⟩, hz⟩
    · rw [List.getElem?_set_ne (Ne.symm hj)] at hc; exact ⟨⟨c, hc⟩, hz⟩
  have stp : Stp ρ σ o G H (ρ.set i (.own c')) σ o G (upd H p y) := ⟨Sub.refl, fun a x hx _ h2 => by rw [upd_ne (show a ≠ p from fun z => h2 (by rw [z]; exact own))]; exact hx, fun a h _ _ _ => h, fun a h => .inl h, fun a ⟨j, hq⟩ => .inl ⟨j, back j a hq⟩⟩
  refine ⟨⟨⟨⟨fun b x hb => ?_, e.wd.nfp, fun a ha => ?_, o.st _ _ _ _ e.wd.ok Sub.refl fun a ha => upd_ne (show a ≠ p from fun z => nf (by rw [← z]; exact ha))⟩, by simpa using e.len, fun j s' hj => ?_, fun j k q a b => e.dis j k q (back j q a) (back k q b), fun q ⟨j, hq⟩ => e.onf q ⟨j, back j q hq⟩⟩, e.wo.step stp⟩, stp⟩
  · rw [upd_ne (show b ≠ p from fun w => by rw [w, h2] at hb; cases hb)]; exact e.wd.sub _ _ hb
  · rw [upd_ne (show a ≠ p from fun z => nf (by rw [← z]; exact ha))]; exact e.wd.occ a ha
  · by_cases hji : j = i
    · subst hji
      rw [List.getElem?_set_self hi] at hj
      cases hj
      exact ⟨_, hs, p, y, rfl, h2, upd_same, ok⟩
    · rw [List.getElem?_set_ne (Ne.symm hji)] at hj
      obtain ⟨ov, k1, k2⟩ := e.sl j s' hj
      refine ⟨ov, k1, k2.step Sub.refl fun q c hs' hv => ?_⟩
      subst hs'
      have oa : OwnAt ρ σ j q := ⟨⟨c, hj⟩, by rw [k1, hv]⟩
      have nq : q ≠ p := fun z => hji (e.dis j i p (by rw [← z]; exact oa) ⟨⟨_, h⟩, hs⟩)
      exact ⟨(e.occ_own ⟨j, oa⟩).1, upd_ne nq⟩
/-- a name gets a value -/
theorem En.store (e : En K o ρ G σ H) {i : Nat} (hi : i < ρ.length) {v : V} {s : Sl} (hs : SlOk K G H (some v) s) (hn : ∀ c, s ≠ .own c) :
    En K o (ρ.set i s) G (σ.set i (some v)) H ∧ Stp ρ σ o G H (ρ.set i s) (σ.set i (some v)) o G H := by
  have hσ : i < σ.length := by rw [e.len]; exact hi
  have back : ∀ j q, OwnAt (ρ.set i s) (σ.set i (some v)) j q → OwnAt ρ σ j q := fun j q ⟨⟨c, hc⟩, hs'⟩ => by
    by_cases hj : j = i
    · subst hj
      rw [List.getElem?_set_self hi] at hc
      exact absurd (Option.some.inj hc) (hn c)
    · rw [List.getElem?_set_ne (Ne.symm hj)] at hc hs'
      exact ⟨⟨c, hc⟩, hs'⟩
  have stp : Stp ρ σ o G H (ρ.set i s) (σ.set i (some v)) o G H := ⟨Sub.refl, fun _ _ h _ _ => h, fun _ h _ _ _ => h, fun _ h => .inl h, fun a ⟨j, hq⟩ => .inl ⟨j, back j a hq⟩⟩
  refine ⟨⟨⟨e.wd, by simpa using e.len, fun j s' hj => ?_, fun j k q a b => e.dis j k q (back j q a) (back k q b), fun q ⟨j, hq⟩ => e.onf q ⟨j, back j q hq⟩⟩, e.wo.step stp⟩, stp⟩
  by_cases hji : j = i
  · subst hji
    rw [List.getElem?_set_self hi] at hj
    cases hj
    exact ⟨_, List.getElem?_set_self hσ, hs⟩
  · rw [List.getElem?_set_ne (Ne.symm hji)] at hj
    obtain ⟨ov, k1, k2⟩ := e.sl j s' hj
    exact ⟨ov, by rw [List.getElem?_set_ne (Ne.symm hji)]; exact k1, k2⟩
/-- a name gets a fresh thing -/
theorem En.storeO (e : En K o ρ G σ H) {i : Nat} (hi : i < ρ.length) {y : HO} {c : Cont} (hG : G p = none) (hH : H p = some y) (ok : COk K G y c) (nf : ¬ o.fp p) (no : ¬ Own ρ σ p) (wo : WOk K o (ρ.set i (.own c)) G (σ.set i (some (.ref p))) H) :
    En K o (ρ.set i (.own c)) G (σ.set i (some (.ref p))) H := by
  have hσ : i < σ.length := by rw [e.len]; exact hi
  have back : ∀ j q, OwnAt (ρ.set i (.own c)) (σ.set i (some (.ref p))) j q → (j = i ∧ q = p) ∨ (j ≠ i ∧ OwnAt ρ σ j q) := fun j q ⟨⟨c, hc⟩, hs'⟩ => by
    by_cases hj : j = i
    · subst hj
      rw [List.getElem?_set_self hσ] at hs'
      cases hs'
      exact .inl ⟨rfl, rfl⟩
    · rw [List.getElem?_set_ne (Ne.symm hj)] at hc hs'
      exact .inr ⟨hj, ⟨c, hc⟩, hs'⟩
  refine ⟨⟨e.wd, by simpa using e.len, fun j s' hj => ?_, fun j k q a b => ?_, fun q ⟨j, hq⟩ => ?_⟩, wo⟩
  · by_cases hji : j = i
    · subst hji
      rw [List.getElem?_set_self hi] at hj
      cases hj
      exact ⟨_, List.getElem?_set_self hσ, p, y, rfl, hG, hH, ok⟩
    · rw [List.getElem?_set_ne (Ne.symm hji)] at hj
      obtain ⟨ov, k1, k2⟩ := e.sl j s' hj
      exact ⟨ov, by rw [List.getElem?_set_ne (Ne.symm hji)]; exact k1, k2⟩
  · rcases back j q a with ⟨h1, h2⟩ | ⟨h1, h2⟩
    · rcases back k q b with ⟨h3, h4⟩ | ⟨h3, h4⟩
      · rw [h1, h3]
      · exact absurd ⟨k, by rw [← h2]; exact h4⟩ no
    · rcases back k q b with ⟨h3, h4⟩ | ⟨h3, h4⟩
      · exact absurd ⟨j, by rw [← h4]; exact h2⟩ no
      · exact e.dis j k q h2 h4
  · rcases back j q hq with ⟨h1, h2⟩ | ⟨h1, h2⟩
    · rw [h2]; exact nf
    · exact e.onf q ⟨j, h2⟩
theorem Stp.storeO (s : Stp ρ σ o G H ρ' σ' o' G' H') {i : Nat} {c : Cont} (fr : H p = none ∨ o.fp p ∨ Own ρ σ p) (hσ : i < σ'.length) : Stp ρ σ o G H (ρ'.set i (.own c)) (σ'.set i (some (.ref p))) o' G' H' := by
  refine ⟨s.g, s.h, s.n, s.f, fun a ⟨j, ⟨c, hc⟩, hs'⟩ => ?_⟩
  by_cases hj : j = i
  · subst hj
    rw [List.getElem?_set_self hσ] at hs'
    cases hs'
    rcases fr with q | q | q
    · exact .inr (.inl q)
    · exact .inr (.inr q)
    · exact .inl q
  · rw [List.getElem?_set_ne (Ne.symm hj)] at hc hs'
    exact s.w a ⟨j, ⟨c, hc⟩, hs'⟩
theorem VAll.step {vs : List V} {dvs : List DV} (x : VAll K o ρ G σ H vs dvs) (s : Stp ρ σ o G H ρ' σ o' G' H') (k : ∀ d ∈ dvs, Kept ρ' d) : VAll K o' ρ' G' σ H' vs dvs := by
  induction x with
  | nil => exact .nil
  | cons h t ih => exact .cons (h.step s (k _ List.mem_cons_self)) (ih fun d hd => k d (List.mem_cons_of_mem _ hd))
end
end DL

set_option Elab.async false
set_option linter.all false
set_option maxRecDepth 100000
namespace DL
open PySem PySem.Spec PyProof.Rows L2
section
variable {K : Kx} {ρ : List Sl} {o : Ob} {R : RD} {N B C : RE} {te ta tb : TE} {tt : TT} {i : Nat} {T : TA}

/-! ### leaves -/
theorem xe_vd {d : PyData} (h : ρ[i]? = some (.val d)) (r : R (.d d) ρ o) : XE K (tVar i) ρ o R := fun G σ H e Q q => by
  obtain ⟨ov, h1, v, rfl, hv⟩ := e.sl i _ h
  exact ⟨v, h1, q v _ _ _ _ _ r Stp.refl e hv trivial⟩
theorem xe_vr {u : V} (h : ρ[i]? = some (.raw u)) (r : R (.raw u) ρ o) : XE K (tVar i) ρ o R := fun G σ H e Q q => by
  obtain ⟨ov, h1, rfl⟩ := e.sl i _ h
  exact ⟨u, h1, q u _ _ _ _ _ r Stp.refl e rfl trivial⟩
theorem xe_vo {c : Cont} (h : ρ[i]? = some (.own c)) (r : R (.sl i c) ρ o) : XE K (tVar i) ρ o R := fun G σ H e Q q => by
  obtain ⟨p, y, h1, _⟩ := e.own_at h
  exact ⟨_, h1, q _ _ _ _ _ _ r Stp.refl e ⟨h1, h⟩ trivial⟩
theorem xe_vf {ds : List PyData} (h : ρ[i]? = some (.own (.lst ds))) (r : R (.d (.list ds)) (ρ.set i (.val (.list ds))) o) : XE K (tVar i) ρ o R := fun G σ H e Q q => by
  obtain ⟨p, xs, h1, ok, e2, s⟩ := e.frzS h
  exact ⟨_, h1, q _ _ _ _ _ _ r s e2 (.lst upd_same ok) trivial⟩
theorem xe_int {n : Int} (r : R (.d (.int n)) ρ o) : XE K (tC (.int n)) ρ o R := fun G σ H e Q q => q _ _ _ _ _ _ r Stp.refl e (.int n) trivial
theorem xe_str {n : Str} (r : R (.d (.str n)) ρ o) : XE K (tC (.str n)) ρ o R := fun G σ H e Q q => q _ _ _ _ _ _ r Stp.refl e (.str n) trivial
theorem xe_bl {n : Bool} (r : R (.d (.bool n)) ρ o) : XE K (tC (.bl n)) ρ o R := fun G σ H e Q q => q _ _ _ _ _ _ r Stp.refl e (.bl n) trivial
theorem xe_non (r : R (.d .none) ρ o) : XE K (tC .non) ρ o R := fun G σ H e Q q => q _ _ _ _ _ _ r Stp.refl e .non trivial
theorem xe_raw {v : V} (r : R (.raw v) ρ o) : XE K (tC v) ρ o R := fun G σ H e Q q => q _ _ _ _ _ _ r Stp.refl e rfl trivial
/-- a constant of the module that is data -/
theorem xe_con {v : V} {d : PyData} (h : ∀ G, Rp K G v d) (r : R (.d d) ρ o) : XE K (tC v) ρ o R := fun G σ H e Q q => q _ _ _ _ _ _ r Stp.refl e (h G) trivial

/-! ### the same with the result frozen -/
def FzR (R : RD) : RD := fun dv ρ o => match dv with
  | .d x => R (.d x) ρ o
  | .raw v => R (.raw v) ρ o
  | .new (.lst ds) => R (.d (.list ds)) ρ o
  | _ => False
def XEF (K : Kx) (te : TE) (ρ : List Sl) (o : Ob) (R : RD) : Prop := XE K te ρ o R
theorem xf_vd {d : PyData} (h : ρ[i]? = some (.val d)) (r : R (.d d) ρ o) : XEF K (tVar i) ρ o R := xe_vd h r
theorem xf_vr {u : V} (h : ρ[i]? = some (.raw u)) (r : R (.raw u) ρ o) : XEF K (tVar i) ρ o R := xe_vr h r
theorem xf_vf {ds : List PyData} (h : ρ[i]? = some (.own (.lst ds))) (r : R (.d (.list ds)) (ρ.set i (.val (.list ds))) o) : XEF K (tVar i) ρ o R := xe_vf h r
theorem xf_of (h : XE K te ρ o (FzR R)) : XEF K te ρ o R := fun G σ H e Q q => h G σ H e Q fun v dv ρ' o' G' H' r s e' ok fr => by
  cases dv with
  | d x => exact q _ _ _ _ _ _ r s e' ok trivial
  | raw v => exact q _ _ _ _ _ _ r s e' ok trivial
  | sl i c => exact r.elim
  | new c =>
    cases c with
    | dic _ => exact r.elim
    | lst ds =>
      obtain ⟨p, y, rfl, g1, h1, ok, nf, no⟩ := ok
      obtain ⟨xs, rfl⟩ : ∃ xs, y = .lst xs := by cases y <;> first | exact ⟨_, rfl⟩ | exact ok.elim
      exact q _ _ _ _ _ _ r (s.frz g1 (fr p rfl)) (e'.frz g1 h1 nf no (e.wo.step (s.frz g1 (fr p rfl)))) (.lst upd_same (RpAll.sub (Sub.upd g1) ok)) trivial
theorem XE.mono {R' : RD} (h : XE K te ρ o R) (k : ∀ dv ρ o, R dv ρ o → R' dv ρ o) : XE K te ρ o R' := fun G σ H e Q q => h G σ H e Q fun v dv ρ' o' G' H' r => q v dv ρ' o' G' H' (k _ _ _ r)

/-! ### sequencing -/
/-- an expression, then what its value is for -/
theorem XE.seq {S : VK} {G : Hp} {σ : L2.St} {H : Hp} (h : XE K te ρ o R) (e : En K o ρ G σ H)
    (k : ∀ v dv ρ' o' G' H', R dv ρ' o' → Stp ρ σ o G H ρ' σ o' G' H' → En K o' ρ' G' σ H' → VOk K o' ρ' G' σ H' v dv → VFr ρ σ o H v dv → S v H') : te σ H S := h G σ H e S k
def XR (K : Kx) (r : R2) (a b : DV) (ρ : List Sl) (o : Ob) (R : RD) : Prop :=
  ∀ G σ H x y, En K o ρ G σ H → VOk K o ρ G σ H x a → VOk K o ρ G σ H y b → ∀ Q, XQ K ρ o G σ H R Q → r x y H Q
theorem xe_op {r : R2} (h : XE K ta ρ o fun a ρ1 o1 => XE K tb ρ1 o1 fun b ρ2 o2 => Kept ρ2 a ∧ XR K r a b ρ2 o2 R) : XE K (tOp r ta tb) ρ o R := fun G σ H e Q q =>
  h.seq e fun x a ρ1 o1 G1 H1 r1 s1 e1 ok1 fr1 => XE.seq r1 e1 fun y b ρ2 o2 G2 H2 ⟨kp, r2⟩ s2 e2 ok2 fr2 =>
    r2 G2 σ H2 x y e2 (ok1.step s2 kp) ok2 Q fun v dv ρ' o' G' H' r s e' ok fr => q v dv ρ' o' G' H' r ((s1.trans s2).trans s) e' ok (fr.back (s1.trans s2))
theorem xr_or1 {r r' : R2} {a b : DV} (h : XR K r a b ρ o R) : XR K (fun x y H Q => r x y H Q ∨ r' x y H Q) a b ρ o R := fun G σ H x y e h1 h2 Q q => .inl (h G σ H x y e h1 h2 Q q)
theorem xr_or2 {r r' : R2} {a b : DV} (h : XR K r' a b ρ o R) : XR K (fun x y H Q => r x y H Q ∨ r' x y H Q) a b ρ o R := fun G σ H x y e h1 h2 Q q => .inr (h G σ H x y e h1 h2 Q q)
theorem vok_int {K : PySem.W.Frag} {G σ H x} {n : Int} (h : VOk K o ρ G σ H x (.d (.int n))) : x = .int n := by cases h; rfl
theorem vok_str {K : PySem.W.Frag} {G σ H x} {n : Str} (h : VOk K o ρ G σ H x (.d (.str n))) : x = .str n := by cases h; rfl
theorem vok_bl {K : PySem.W.Frag} {G σ H x} {n : Bool} (h : VOk K o ρ G σ H x (.d (.bool n))) : x = .bl n := by cases h; rfl
theorem vok_non {K : PySem.W.Frag} {G σ H x} (h : VOk K o ρ G σ H x (.d .none)) : x = .non := by cases h; rfl
/-- the result is a datum without an address -/
theorem xq_now {G σ H} {Q : VK} (q : XQ K ρ o G σ H R Q) {v : V} {d : PyData} (e : En K o ρ G σ H) (r : R (.d d) ρ o) (ok : Rp K G v d) : Q v H := q _ _ _ _ _ _ r Stp.refl e ok trivial
theorem xr_i0 {g : Int → Int → Int} {m n : Int} (r : R (.d (.int (g m n))) ρ o) : XR K (rI0 fun i j => .int (g i j)) (.d (.int m)) (.d (.int n)) ρ o R := fun G σ H x y e h1 h2 Q q =>
  ⟨m, n, vok_int h1, vok_int h2, xq_now q e r (.int _)⟩
theorem xr_b0 {g : Int → Int → Bool} {m n : Int} (r : R (.d (.bool (g m n))) ρ o) : XR K (rI0 fun i j => .bl (g i j)) (.d (.int m)) (.d (.int n)) ρ o R := fun G σ H x y e h1 h2 Q q =>
  ⟨m, n, vok_int h1, vok_int h2, xq_now q e r (.bl _)⟩
theorem xr_iC {C : Int → Int → Prop} {g : Int → Int → Int} {m n : Int} (c : C m n) (r : R (.d (.int (g m n))) ρ o) : XR K (rI C fun i j => .int (g i j)) (.d (.int m)) (.d (.int n)) ρ o R := fun G σ H x y e h1 h2 Q q =>
  ⟨m, n, vok_int h1, vok_int h2, c, xq_now q e r (.int _)⟩
theorem xr_catS {m n : Str} (c : m.length + n.length ≤ sizeLine) (r : R (.d (.str (m ++ n))) ρ o) :
    XR K (fun x y H Q => ∃ i j, x = .str i ∧ y = .str j ∧ i.length + j.length ≤ sizeLine ∧ Q (.str (i ++ j)) H) (.d (.str m)) (.d (.str n)) ρ o R := fun G σ H x y e h1 h2 Q q =>
  ⟨m, n, vok_str h1, vok_str h2, c, xq_now q e r (.str _)⟩
/-- a list that may be read -/
def IsL (ρ : List Sl) : DV → List PyData → Prop
  | .d (.list ds), es => ds = es
  | .sl _ (.lst ds), es => ds = es
  | .new (.lst ds), es => ds = es
  | _, _ => False
theorem IsL.at {G : Hp} {σ : L2.St} {H : Hp} {x : V} {dv : DV} {ds : List PyData} (l : IsL ρ dv ds) (e : En K o ρ G σ H) (h : VOk K o ρ G σ H x dv) :
    ∃ p xs, x = .ref p ∧ H p = some (.lst xs) ∧ RpAll K G xs ds := by
  cases dv with
  | d z =>
    cases z <;> try exact l.elim
    cases l
    cases h with
    | lst h1 h2 => exact ⟨_, _, rfl, e.wd.sub _ _ h1, h2⟩
  | raw u => exact l.elim
  | sl i c =>
    cases c with
    | dic _ => exact l.elim
    | lst es =>
      cases l
      obtain ⟨p, y, h1, _, h3, ok, _⟩ := e.own_at h.2
      have hx := h.1
      rw [h1] at hx
      cases hx
      obtain ⟨xs, rfl⟩ : ∃ xs, y = .lst xs := by cases y <;> first | exact ⟨_, rfl⟩ | exact ok.elim
      exact ⟨p, xs, rfl, h3, ok⟩
  | new c =>
    cases c with
    | dic _ => exact l.elim
    | lst es =>
      cases l
      obtain ⟨p, y, rfl, _, h3, ok, _⟩ := h
      obtain ⟨xs, rfl⟩ : ∃ xs, y = .lst xs := by cases y <;> first | exact ⟨_, rfl⟩ | exact ok.elim
      exact ⟨p, xs, rfl, h3, ok⟩
theorem nofp {G σ H} (e : En K o ρ G σ H) {p : Addr} (hp : H p = none) : ¬ o.fp p := fun z => by
  obtain ⟨y, hy⟩ := e.wd.occ p z
  rw [hp] at hy
  cases hy
theorem noown {G σ H} (e : En K o ρ G σ H) {p : Addr} (hp : H p = none) : ¬ Own ρ σ p := fun z => by
  obtain ⟨_, y, hy⟩ := e.occ_own z
  rw [hp] at hy
  cases hy
/-- a fresh list comes -/
theorem xq_new {G σ H} {Q : VK} (q : XQ K ρ o G σ H R Q) {xs : List V} {ds : List PyData} (e : En K o ρ G σ H) (r : R (.new (.lst ds)) ρ o) (ok : RpAll K G xs ds) : ∀ p, H p = none → Q (.ref p) (upd H p (.lst xs)) := fun p hp =>
  q _ _ _ _ _ _ r (Stp.newO hp) (e.newO hp) ⟨p, _, rfl, e.wd.gnone hp, upd_same, ok, nofp e hp, noown e hp⟩ fun p' hp' => by cases hp'; exact .inl hp
/-- a fresh tuple comes -/
theorem xq_tup {G σ H} {Q : VK} (q : XQ K ρ o G σ H R Q) {xs : List V} {ds : List PyData} (e : En K o ρ G σ H) (r : R (.d (.tuple ds)) ρ o) (ok : RpAll K G xs ds) : ∀ p, H p = none → Q (.ref p) (upd H p (.tup xs)) := fun p hp =>
  q _ _ _ _ _ _ r (Stp.newF e.wd hp) (e.newF hp) (.tup (.inl (.inl upd_same)) (RpAll.sub (Sub.upd (e.wd.gnone hp)) ok)) trivial
theorem xr_catL {a b : DV} {m n : List PyData} (ha : IsL ρ a m) (hb : IsL ρ b n) (c : m.length + n.length ≤ sizeLine) (r : R (.new (.lst (m ++ n))) ρ o) : XR K rCat a b ρ o R := fun G σ H x y e h1 h2 Q q => by
  obtain ⟨p, xs, rfl, hp, ok1⟩ := ha.at e h1
  obtain ⟨p', ys, rfl, hp', ok2⟩ := hb.at e h2
  exact ⟨p, p', xs, ys, rfl, rfl, hp, hp', by rw [ok1.len, ok2.len]; exact c, xq_new q e r (ok1.append ok2)⟩

/-! ### arguments -/
theorem xa_nil {R : List DV → RE} (r : R [] ρ o) : XA K tNil ρ o R := fun G σ H e Q q => q _ _ _ _ _ _ r Stp.refl e .nil
theorem xa_cons {R : List DV → RE} (h : XE K ta ρ o fun a ρ1 o1 => XA K T ρ1 o1 fun bs ρ2 o2 => Kept ρ2 a ∧ R (a :: bs) ρ2 o2) : XA K (tCons ta T) ρ o R := fun G σ H e Q q =>
  h.seq e fun x a ρ1 o1 G1 H1 r1 s1 e1 ok1 fr1 => r1 G1 σ H1 e1 _ fun ys bs ρ2 o2 G2 H2 ⟨kp, r2⟩ s2 e2 ok2 =>
    q _ _ _ _ _ _ r2 (s1.trans s2) e2 (.cons (ok1.step s2 kp) ok2)
/-- arguments that are handed on -/
def XAF (K : Kx) (ta : TA) (ρ : List Sl) (o : Ob) (R : List DV → RE) : Prop := XA K ta ρ o fun dvs ρ' o' => (∀ d ∈ dvs, (∃ x, d = .d x) ∨ ∃ v, d = .raw v) ∧ R dvs ρ' o'
theorem XA.mono {R R' : List DV → RE} (h : XA K T ρ o R) (k : ∀ ds ρ' o', R ds ρ' o' → R' ds ρ' o') : XA K T ρ o R' := fun G σ H e Q q => h G σ H e Q fun vs ds ρ' o' G' H' r => q vs ds ρ' o' G' H' (k _ _ _ r)
theorem xaf_nil {R : List DV → RE} (r : R [] ρ o) : XAF K tNil ρ o R := xa_nil ⟨fun _ h => (nomatch h), r⟩
/-- a value that may be handed on -/
def HandR (R : DV → RE) : RD := fun dv ρ o => match dv with
  | .d x => R (.d x) ρ o
  | .raw v => R (.raw v) ρ o
  | _ => False
theorem xaf_cons {R : List DV → RE} (h : XEF K ta ρ o (HandR fun a ρ1 o1 => XAF K T ρ1 o1 fun bs ρ2 o2 => R (a :: bs) ρ2 o2)) : XAF K (tCons ta T) ρ o R := by
  refine xa_cons (XE.mono h fun dv ρ1 o1 r => ?_)
  cases dv with
  | d x => exact XA.mono r fun bs ρ2 o2 ⟨k, r⟩ => ⟨trivial, fun d hd => (List.mem_cons.mp hd).elim (fun z => .inl ⟨x, z⟩) (k d), r⟩
  | raw x => exact XA.mono r fun bs ρ2 o2 ⟨k, r⟩ => ⟨trivial, fun d hd => (List.mem_cons.mp hd).elim (fun z => .inr ⟨x, z⟩) (k d), r⟩
  | sl _ _ => exact False.elim r
  | new _ => exact False.elim r
theorem VAll.data {G σ H} : ∀ {vs : List V} {dvs : List DV} {ds : List PyData}, VAll K o ρ G σ H vs dvs → dvs = ds.map .d → RpAll K G vs ds
  | _, _, [], .nil, _ => .nil
  | _, _, _ :: _, .nil, h => nomatch h
  | _, _, [], .cons _ _, h => nomatch h
  | _, _, d :: ds, .cons a b, h => by
    injection h with h1 h2
    subst h1
    exact .cons a (VAll.data b h2)
/-- a written tuple -/
theorem xe_tup (h : XAF K T ρ o fun dvs ρ' o' => ∃ ds : List PyData, dvs = ds.map .d ∧ ds.length ≤ sizeLine ∧ R (.d (.tuple ds)) ρ' o') : XE K (tTup T) ρ o R := fun G σ H e Q q =>
  h G σ H e _ fun vs dvs ρ' o' G' H' ⟨_, ds, hd, hl, r⟩ s e' ok => by
    have ok' := ok.data hd
    exact ⟨by rw [ok'.len]; exact hl, xq_tup (fun v dv ρ2 o2 G2 H2 r2 s2 e2 ok2 fr => q v dv ρ2 o2 G2 H2 r2 (s.trans s2) e2 ok2 (fr.back s)) e' r ok'⟩
/-- a written list -/
theorem xe_lst (h : XAF K T ρ o fun dvs ρ' o' => ∃ ds : List PyData, dvs = ds.map .d ∧ ds.length ≤ sizeLine ∧ R (.new (.lst ds)) ρ' o') : XE K (tLst T) ρ o R := fun G σ H e Q q =>
  h G σ H e _ fun vs dvs ρ' o' G' H' ⟨_, ds, hd, hl, r⟩ s e' ok => by
    have ok' := ok.data hd
    exact ⟨by rw [ok'.len]; exact hl, xq_new (fun v dv ρ2 o2 G2 H2 r2 s2 e2 ok2 fr => q v dv ρ2 o2 G2 H2 r2 (s.trans s2) e2 ok2 (fr.back s)) e' r ok'⟩

/-! ### tests -/
theorem xt_b (h : XE K te ρ o fun dv ρ' o' => ∃ b, dv = .d (.bool b) ∧ R' b ρ' o') : XT K (tB te) ρ o R' := fun G σ H e Q q =>
  h.seq e fun v dv ρ' o' G' H' ⟨b, hd, r⟩ s e' ok fr => by subst hd; exact ⟨b, vok_bl ok, q _ _ _ _ _ r s e'⟩
theorem xt_test (h : XE K te ρ o fun dv ρ' o' => ∃ b, dv = .d (.bool b) ∧ R' b ρ' o') : XT K (tTest te) ρ o R' := xt_b h
theorem xt_and {t u : TT} {R' : Bool → RE} (h : XT K t ρ o fun b ρ1 o1 => (b = true → XT K u ρ1 o1 R') ∧ (b = false → R' false ρ1 o1)) : XT K (tAnd t u) ρ o R' := fun G σ H e Q q =>
  h G σ H e _ fun b ρ1 o1 G1 H1 ⟨r1, r2⟩ s e1 => by
    cases b with
    | true => exact iteT (r1 rfl G1 σ H1 e1 _ fun b ρ2 o2 G2 H2 r s2 e2 => q _ _ _ _ _ r (s.trans s2) e2)
    | false => exact iteF (q _ _ _ _ _ (r2 rfl) s e1)
theorem xt_or {t u : TT} {R' : Bool → RE} (h : XT K t ρ o fun b ρ1 o1 => (b = true → R' true ρ1 o1) ∧ (b = false → XT K u ρ1 o1 R')) : XT K (tOr t u) ρ o R' := fun G σ H e Q q =>
  h G σ H e _ fun b ρ1 o1 G1 H1 ⟨r1, r2⟩ s e1 => by
    cases b with
    | true => exact iteT (q _ _ _ _ _ (r1 rfl) s e1)
    | false => exact iteF (r2 rfl G1 σ H1 e1 _ fun b ρ2 o2 G2 H2 r s2 e2 => q _ _ _ _ _ r (s.trans s2) e2)
theorem xt_not {t : TT} {R' : Bool → RE} (h : XT K t ρ o fun b ρ1 o1 => R' (!b) ρ1 o1) : XT K (tNot t) ρ o R' := fun G σ H e Q q =>
  h G σ H e _ fun b ρ1 o1 G1 H1 r s e1 => q _ _ _ _ _ r s e1
theorem xe_and (h : XE K ta ρ o fun a ρ1 o1 => ∃ c, a = .d (.bool c) ∧ (c = true → XE K tb ρ1 o1 R) ∧ (c = false → R (.d (.bool false)) ρ1 o1)) : XE K (tAndV ta tb) ρ o R := fun G σ H e Q q =>
  h.seq e fun v dv ρ1 o1 G1 H1 ⟨c, hd, r1, r2⟩ s e1 ok fr => by
    subst hd
    refine ⟨c, vok_bl ok, ?_⟩
    cases c with
    | true => exact iteT (r1 rfl G1 σ H1 e1 _ fun v dv ρ2 o2 G2 H2 r s2 e2 ok fr => q _ _ _ _ _ _ r (s.trans s2) e2 ok (fr.back s))
    | false => exact iteF (q _ _ _ _ _ _ (r2 rfl) s e1 (.bl false) trivial)
theorem xe_or (h : XE K ta ρ o fun a ρ1 o1 => ∃ c, a = .d (.bool c) ∧ (c = true → R (.d (.bool true)) ρ1 o1) ∧ (c = false → XE K tb ρ1 o1 R)) : XE K (tOrV ta tb) ρ o R := fun G σ H e Q q =>
  h.seq e fun v dv ρ1 o1 G1 H1 ⟨c, hd, r1, r2⟩ s e1 ok fr => by
    subst hd
    refine ⟨c, vok_bl ok, ?_⟩
    cases c with
    | true => exact iteT (q _ _ _ _ _ _ (r1 rfl) s e1 (.bl true) trivial)
    | false => exact iteF (r2 rfl G1 σ H1 e1 _ fun v dv ρ2 o2 G2 H2 r s2 e2 ok fr => q _ _ _ _ _ _ r (s.trans s2) e2 ok (fr.back s))
theorem xe_not (h : XE K ta ρ o fun a ρ1 o1 => ∃ c, a = .d (.bool c) ∧ R (.d (.bool (!c))) ρ1 o1) : XE K (tNotV ta) ρ o R := fun G σ H e Q q =>
  h.seq e fun v dv ρ1 o1 G1 H1 ⟨c, hd, r1⟩ s e1 ok fr => by
    subst hd
    exact ⟨c, vok_bl ok, q _ _ _ _ _ _ r1 s e1 (.bl _) trivial⟩
theorem xe_if (h : XT K tt ρ o fun b ρ1 o1 => (b = true → XE K ta ρ1 o1 R) ∧ (b = false → XE K tb ρ1 o1 R)) : XE K (tIf tt ta tb) ρ o R := fun G σ H e Q q =>
  h G σ H e _ fun b ρ1 o1 G1 H1 ⟨r1, r2⟩ s e1 => by
    cases b with
    | true => exact iteT (r1 rfl G1 σ H1 e1 _ fun v dv ρ2 o2 G2 H2 r s2 e2 ok fr => q _ _ _ _ _ _ r (s.trans s2) e2 ok (fr.back s))
    | false => exact iteF (r2 rfl G1 σ H1 e1 _ fun v dv ρ2 o2 G2 H2 r s2 e2 ok fr => q _ _ _ _ _ _ r (s.trans s2) e2 ok (fr.back s))
end

/-! ### targets -/
section
variable {K : Kx} {ρ : List Sl} {o : Ob} {R : RD} {N B C : RE} {te ta tb : TE} {tt : TT} {i : Nat} {T : TA} {t u ts : TS}
theorem lt_of_blt {a b : Nat} (h : Nat.blt a b = true) : a < b := Nat.blt_eq.mp h
theorem xg_nd {d : PyData} (n : N (ρ.set i (.val d)) o) (hi : Nat.blt i ρ.length = true := by rfl) : XG K (gName i) (.d d) ρ o N := fun G σ H v e ok Q q =>
  q _ _ _ _ _ n (e.store (lt_of_blt hi) (s := .val d) ⟨v, rfl, ok⟩ (fun c z => nomatch z)).2 (e.store (lt_of_blt hi) (s := .val d) ⟨v, rfl, ok⟩ (fun c z => nomatch z)).1
theorem xg_nr {u : V} (n : N (ρ.set i (.raw u)) o) (hi : Nat.blt i ρ.length = true := by rfl) : XG K (gName i) (.raw u) ρ o N := fun G σ H v e ok Q q => by
  have ok' : v = u := ok
  subst ok'
  exact q _ _ _ _ _ n (e.store (lt_of_blt hi) (s := .raw v) rfl (fun c z => nomatch z)).2 (e.store (lt_of_blt hi) (s := .raw v) rfl (fun c z => nomatch z)).1
theorem xgs_nil (n : N ρ o) : XGs K gNil [] ρ o N := fun G σ H vs e ok Q q => by
  cases ok
  exact ⟨rfl, q _ _ _ _ _ n Stp.refl e⟩
theorem VAll.steps {ρ' : List Sl} {σ σ' : L2.St} {o' : Ob} {G G' H H' : Hp} {vs : List V} {ds : List PyData} (x : VAll K o ρ G σ H vs (ds.map .d)) (s : Sub G G') : VAll K o' ρ' G' σ' H' vs (ds.map .d) := by
  induction ds generalizing vs with
  | nil => cases x; exact .nil
  | cons d ds ih => cases x with
    | cons h t => exact .cons (Rp.sub s h) (ih t)
theorem xgs_cons {g : TG} {gs : TGs} {d : PyData} {ds : List PyData} (h : XG K g (.d d) ρ o fun ρ1 o1 => XGs K gs (ds.map .d) ρ1 o1 N) : XGs K (gCons g gs) ((d :: ds).map .d) ρ o N := fun G σ H vs e ok Q q => by
  cases ok with
  | cons h1 h2 =>
    exact ⟨_, _, rfl, h G σ H _ e h1 _ fun ρ1 o1 G1 σ1 H1 r s1 e1 => r G1 σ1 H1 _ e1 (VAll.steps h2 s1.g) _ fun ρ2 o2 G2 σ2 H2 r2 s2 e2 => q _ _ _ _ _ r2 (s1.trans s2) e2⟩
theorem RpAll.vall {G : Hp} {σ : L2.St} {H : Hp} : ∀ {vs : List V} {ds : List PyData}, RpAll K G vs ds → VAll K o ρ G σ H vs (ds.map .d)
  | _, _, .nil => .nil
  | _, _, .cons a b => .cons a (RpAll.vall b)
theorem xg_tup {gs : TGs} {n : Nat} {ds : List PyData} (h : XGs K gs (ds.map .d) ρ o N) (hn : ds.length = n := by rfl) : XG K (gTup K n gs) (.d (.tuple ds)) ρ o N := fun G σ H v e ok Q q => by
  cases ok with
  | tup h1 h2 => exact ⟨_, _, rfl, SqT.sub e.wd.sub h1, by rw [h2.len]; exact hn, h G σ H _ e h2.vall Q q⟩

/-! ### statements -/
theorem xs_next (n : N ρ o) : XS K tNext ρ o N R B C := fun G σ H e D qn qr qb qc => qn _ _ _ _ _ n Stp.refl e
theorem xs_break (n : B ρ o) : XS K tBreak ρ o N R B C := fun G σ H e D qn qr qb qc => qb _ _ _ _ _ n Stp.refl e
theorem xs_cont (n : C ρ o) : XS K tCont ρ o N R B C := fun G σ H e D qn qr qb qc => qc _ _ _ _ _ n Stp.refl e
theorem xs_seq (h : XS K t ρ o (fun ρ1 o1 => XS K u ρ1 o1 N R B C) R B C) : XS K (tSeq t u) ρ o N R B C := fun G σ H e D qn qr qb qc =>
  h G σ H e _ (fun ρ1 o1 G1 σ1 H1 r s1 e1 => r G1 σ1 H1 e1 D (fun _ _ _ _ _ n s e => qn _ _ _ _ _ n (s1.trans s) e) (fun _ _ _ _ _ _ _ n s e ok fr => qr _ _ _ _ _ _ _ n (s1.trans s) e ok (fr.back s1))
    (fun _ _ _ _ _ n s e => qb _ _ _ _ _ n (s1.trans s) e) (fun _ _ _ _ _ n s e => qc _ _ _ _ _ n (s1.trans s) e)) qr qb qc
theorem xs_ret (h : XE K te ρ o R) : XS K (tRet te) ρ o N R B C := fun G σ H e D qn qr qb qc => h.seq e fun v dv ρ' o' G' H' r s e' ok fr => qr _ _ _ _ _ _ _ r s e' ok fr
theorem xs_retN (r : R (.d .none) ρ o) : XS K tRetN ρ o N R B C := fun G σ H e D qn qr qb qc => qr _ _ _ _ _ _ _ r Stp.refl e .non trivial
theorem xs_drop (h : XE K te ρ o fun _ ρ' o' => N ρ' o') : XS K (tDrop te) ρ o N R B C := fun G σ H e D qn qr qb qc => h.seq e fun v dv ρ' o' G' H' r s e' ok fr => qn _ _ _ _ _ r s e'
theorem xs_if (h : XT K tt ρ o fun b ρ1 o1 => (b = true → XS K t ρ1 o1 N R B C) ∧ (b = false → XS K u ρ1 o1 N R B C)) : XS K (tIfS tt t u) ρ o N R B C := fun G σ H e D qn qr qb qc =>
  h G σ H e _ fun b ρ1 o1 G1 H1 ⟨r1, r2⟩ s1 e1 => by
    cases b with
    | true => exact iteT (r1 rfl G1 σ H1 e1 D (fun _ _ _ _ _ n s e => qn _ _ _ _ _ n (s1.trans s) e) (fun _ _ _ _ _ _ _ n s e ok fr => qr _ _ _ _ _ _ _ n (s1.trans s) e ok (fr.back s1)) (fun _ _ _ _ _ n s e => qb _ _ _ _ _ n (s1.trans s) e) (fun _ _ _ _ _ n s e => qc _ _ _ _ _ n (s1.trans s) e))
    | false => exact iteF (r2 rfl G1 σ H1 e1 D (fun _ _ _ _ _ n s e => qn _ _ _ _ _ n (s1.trans s) e) (fun _ _ _ _ _ _ _ n s e ok fr => qr _ _ _ _ _ _ _ n (s1.trans s) e ok (fr.back s1)) (fun _ _ _ _ _ n s e => qb _ _ _ _ _ n (s1.trans s) e) (fun _ _ _ _ _ n s e => qc _ _ _ _ _ n (s1.trans s) e))
/-- what a name holds behind an assignment -/
def AsR (i : Nat) (N : RE) : RD := fun dv ρ o => match dv with
  | .d x => N (ρ.set i (.val x)) o
  | .raw v => N (ρ.set i (.raw v)) o
  | .new c => N (ρ.set i (.own c)) o
  | .sl _ _ => False
theorem xs_asg (h : XE K te ρ o fun dv ρ' o' => Nat.blt i ρ'.length = true ∧ AsR i N dv ρ' o') : XS K (tAsg te (gName i)) ρ o N R B C := fun G σ H e D qn qr qb qc =>
  h.seq e fun v dv ρ' o' G' H' ⟨hi, r⟩ s e' ok fr => by
    have hi := lt_of_blt hi
    cases dv with
    | d x => exact qn _ _ _ _ _ r (s.trans (e'.store hi (s := .val x) ⟨v, rfl, ok⟩ (fun c z => nomatch z)).2) (e'.store hi (s := .val x) ⟨v, rfl, ok⟩ (fun c z => nomatch z)).1
    | raw x =>
      have ok' : v = x := ok
      subst ok'
      exact qn _ _ _ _ _ r (s.trans (e'.store hi (s := .raw v) rfl (fun c z => nomatch z)).2) (e'.store hi (s := .raw v) rfl (fun c z => nomatch z)).1
    | sl _ _ => exact False.elim r
    | new c =>
      obtain ⟨p, y, rfl, g1, h1, ok, nf, no⟩ := ok
      exact qn _ _ _ _ _ r (s.storeO (fr p rfl) (by rw [e'.len]; exact hi)) (e'.storeO hi g1 h1 ok nf no (e.wo.step (s.storeO (fr p rfl) (by rw [e'.len]; exact hi))))
/-- an assignment to a target of another form -/
theorem xs_asgG {g : TG} (h : XE K te ρ o (HandR fun dv ρ' o' => XG K g dv ρ' o' N)) : XS K (tAsg te g) ρ o N R B C := fun G σ H e D qn qr qb qc =>
  h.seq e fun v dv ρ' o' G' H' r s e' ok fr => by
    cases dv with
    | d x => exact (show XG K g (.d x) ρ' o' N from r) G' σ H' v e' ok _ fun _ _ _ _ _ n s2 e2 => qn _ _ _ _ _ n (s.trans s2) e2
    | raw x => exact (show XG K g (.raw x) ρ' o' N from r) G' σ H' v e' ok _ fun _ _ _ _ _ n s2 e2 => qn _ _ _ _ _ n (s.trans s2) e2
    | sl _ _ => exact False.elim r
    | new _ => exact False.elim r
theorem xs_augI {g : Int → Int → Int} {a : Int} (hi : ρ[i]? = some (.val (.int a))) (h : XE K te ρ o fun dv ρ' o' => ∃ b, dv = .d (.int b) ∧ Nat.blt i ρ'.length = true ∧ N (ρ'.set i (.val (.int (g a b)))) o') :
    XS K (tAug i te (ipI g)) ρ o N R B C := fun G σ H e D qn qr qb qc => by
  obtain ⟨ov, h1, v, rfl, hv⟩ := e.sl i _ hi
  cases hv
  refine ⟨_, h1, h.seq e fun v dv ρ' o' G' H' ⟨b, hd, hl, n⟩ s e' ok fr => ?_⟩
  subst hd
  exact ⟨a, b, rfl, vok_int ok, qn _ _ _ _ _ n (s.trans (e'.store (lt_of_blt hl) (s := .val (.int (g a b))) ⟨_, rfl, .int _⟩ (fun c z => nomatch z)).2) (e'.store (lt_of_blt hl) (s := .val (.int (g a b))) ⟨_, rfl, .int _⟩ (fun c z => nomatch z)).1⟩

/-! ### loops -/
/-- the state at a loop's head -/
def LoopP (K : Kx) (I : RE) (ρ : List Sl) (σ : L2.St) (o : Ob) (G H : Hp) (σ' : L2.St) (H' : Hp) : Prop :=
  ∃ ρ' o' G', I ρ' o' ∧ Stp ρ σ o G H ρ' σ' o' G' H' ∧ En K o' ρ' G' σ' H'
theorem xs_while {c : TT} {tb : TS} (I : Nat → RE) (m0 : Nat) (h0 : I m0 ρ o) (hs : ∀ m ρ' o', I m ρ' o' → XT K c ρ' o' fun b ρ1 o1 =>
      (b = true → XS K tb ρ1 o1 (fun ρ2 o2 => ∃ m', m' < m ∧ I m' ρ2 o2) R N (fun ρ2 o2 => ∃ m', m' < m ∧ I m' ρ2 o2)) ∧ (b = false → N ρ1 o1)) : XS K (tWhile c tb) ρ o N R B C := fun G σ H e D qn qr qb qc => by
  refine ⟨fun m σ' H' => LoopP K (I m) ρ σ o G H σ' H', ⟨m0, ρ, o, G, h0, Stp.refl, e⟩, ?_⟩
  rintro m σ1 H1 ⟨ρ1, o1, G1, i1, s1, e1⟩
  refine hs m ρ1 o1 i1 G1 σ1 H1 e1 _ fun b ρ2 o2 G2 H2 ⟨r1, r2⟩ s2 e2 => ?_
  have s12 := s1.trans s2
  cases b with
  | false => exact iteF (qn _ _ _ _ _ (r2 rfl) s12 e2)
  | true =>
    refine iteT ⟨fun σ' H' => ∃ m', m' < m ∧ LoopP K (I m') ρ σ o G H σ' H', fun _ _ h => h, ?_⟩
    exact r1 rfl G2 σ1 H2 e2 _ (fun _ _ _ _ _ ⟨m', hm, n⟩ s e => ⟨m', hm, _, _, _, n, s12.trans s, e⟩) (fun _ _ _ _ _ _ _ n s e ok fr => qr _ _ _ _ _ _ _ n (s12.trans s) e ok (fr.back s12))
      (fun _ _ _ _ _ n s e => qn _ _ _ _ _ n (s12.trans s) e) (fun _ _ _ _ _ ⟨m', hm, n⟩ s e => ⟨m', hm, _, _, _, n, s12.trans s, e⟩)
/-- for over a list that stands -/
theorem xs_forL {tl : TE} {g : TG} {tb : TS} (h : XEF K tl ρ o fun dv ρ1 o1 => ∃ ds, dv = .d (.list ds) ∧ ∃ I : Nat → RE, I 0 ρ1 o1 ∧
      (∀ k d ρ' o', ds[k]? = some d → I k ρ' o' → XG K g (.d d) ρ' o' fun ρ2 o2 => XS K tb ρ2 o2 (I (k + 1)) R N (I (k + 1))) ∧ ∀ ρ' o', I ds.length ρ' o' → N ρ' o') : XS K (tFor (iList K tl) g tb) ρ o N R B C := fun G σ H e D qn qr qb qc =>
  XE.seq h e fun v dv ρ1 o1 G1 H1 ⟨ds, hd, I, i0, it, ie⟩ s1 e1 ok fr => by
    subst hd
    cases ok with
    | @lst a xs _ hg hx =>
    refine ⟨a, rfl, ⟨xs, .inl (.inl (e1.wd.sub _ _ hg))⟩, ?_⟩
    refine for_list (xs := xs) (fun k σ' H' => ∃ ρ' o' G', I k ρ' o' ∧ Stp ρ σ o G H ρ' σ' o' G' H' ∧ En K o' ρ' G' σ' H' ∧ Sub G1 G') ⟨ρ1, o1, G1, i0, s1, e1, Sub.refl⟩ (fun k σ' H' _ ⟨ρ', o', G', _, _, e', sb⟩ => .inl (.inl (e'.wd.sub _ _ (sb _ _ hg)))) (fun k x σ' H' hk ⟨ρ', o', G', ik, s', e', sb⟩ => ?_) (fun σ' H' ⟨ρ', o', G', ik, s', e', sb⟩ => ?_)
    · obtain ⟨d, hd, rx⟩ := hx.get hk
      refine it k d ρ' o' hd ik G' σ' H' x e' (Rp.sub sb rx) _ fun ρ2 o2 G2 σ2 H2 r s2 e2 => ?_
      have s12 := s'.trans s2
      exact r G2 σ2 H2 e2 _ (fun _ _ _ _ _ n s e => ⟨_, _, _, n, s12.trans s, e, sb.trans (s2.g.trans s.g)⟩) (fun _ _ _ _ _ _ _ n s e ok fr => qr _ _ _ _ _ _ _ n (s12.trans s) e ok (fr.back s12))
        (fun _ _ _ _ _ n s e => qn _ _ _ _ _ n (s12.trans s) e) (fun _ _ _ _ _ n s e => ⟨_, _, _, n, s12.trans s, e, sb.trans (s2.g.trans s.g)⟩)
    · rw [hx.len] at ik
      exact qn _ _ _ _ _ (ie _ _ ik) s' e'
theorem xs_rng {lo : Int} {n : Nat} {g : TG} {tb : TS} {D : Ends} {G H : Hp} {σ : L2.St} (e : En K o ρ G σ H) (I : Nat → RE) (i0 : I 0 ρ o)
    (it : ∀ k ρ' o', k < n → I k ρ' o' → XG K g (.d (.int (lo + (k : Nat)))) ρ' o' fun ρ2 o2 => XS K tb ρ2 o2 (I (k + 1)) R N (I (k + 1))) (ie : ∀ ρ' o', I n ρ' o' → N ρ' o')
    (qn : ∀ ρ' o' G' σ' H', N ρ' o' → Stp ρ σ o G H ρ' σ' o' G' H' → En K o' ρ' G' σ' H' → D.nx σ' H')
    (qr : ∀ v dv ρ' o' G' σ' H', R dv ρ' o' → Stp ρ σ o G H ρ' σ' o' G' H' → En K o' ρ' G' σ' H' → VOk K o' ρ' G' σ' H' v dv → VFr ρ σ o H v dv → D.rt v H') :
    ∃ W : Nat → Nat → L2.St → Hp → Prop, (∃ m, W 0 m σ H) ∧ ∀ i m σ H, W i m σ H →
      ((Itr lo n).stop i H ∧ D.nx σ H) ∨ ((Itr lo n).go i H ∧ ∃ N : L2.St → Hp → Prop, (∀ σ' H', N σ' H' → ∃ m', m' < m ∧ W (i + 1) m' σ' H') ∧ ∀ x H', (Itr lo n).yld i H x H' → g x σ H' fun σ2 H2 => tb { D with nx := N, ct := N, bk := D.nx } σ2 H2) := by
  refine for_range (fun k σ' H' => LoopP K (I k) ρ σ o G H σ' H') ⟨ρ, o, G, i0, Stp.refl, e⟩ (fun k σ' H' hk ⟨ρ', o', G', ik, s', e'⟩ => ?_) (fun σ' H' ⟨ρ', o', G', ik, s', e'⟩ => qn _ _ _ _ _ (ie _ _ ik) s' e')
  refine it k ρ' o' hk ik G' σ' H' _ e' (.int _) _ fun ρ2 o2 G2 σ2 H2 r s2 e2 => ?_
  have s12 := s'.trans s2
  exact r G2 σ2 H2 e2 _ (fun _ _ _ _ _ n s e => ⟨_, _, _, n, s12.trans s, e⟩) (fun _ _ _ _ _ _ _ n s e ok fr => qr _ _ _ _ _ _ _ n (s12.trans s) e ok (fr.back s12))
        (fun _ _ _ _ _ n s e => qn _ _ _ _ _ n (s12.trans s) e) (fun _ _ _ _ _ n s e => ⟨_, _, _, n, s12.trans s, e⟩)
theorem xs_forR1 {g : TG} {tb : TS} (h : XA K T ρ o fun dvs ρ1 o1 => ∃ j : Int, dvs = [.d (.int j)] ∧ -(2 ^ 62) ≤ j ∧ j < 2 ^ 62 ∧ ∃ I : Nat → RE, I 0 ρ1 o1 ∧
      (∀ k ρ' o', k < j.toNat → I k ρ' o' → XG K g (.d (.int (0 + (k : Nat)))) ρ' o' fun ρ2 o2 => XS K tb ρ2 o2 (I (k + 1)) R N (I (k + 1))) ∧ ∀ ρ' o', I j.toNat ρ' o' → N ρ' o') : XS K (tFor (iRng1 T) g tb) ρ o N R B C := fun G σ H e D qn qr qb qc =>
  h G σ H e _ fun vs dvs ρ1 o1 G1 H1 ⟨j, hd, b1, b2, I, i0, it, ie⟩ s1 e1 ok => by
    subst hd
    cases ok with
    | cons h1 h2 =>
    cases h2
    cases h1
    exact ⟨j, rfl, b1, b2, xs_rng e1 I i0 it ie (fun _ _ _ _ _ n s e => qn _ _ _ _ _ n (s1.trans s) e) (fun _ _ _ _ _ _ _ n s e ok fr => qr _ _ _ _ _ _ _ n (s1.trans s) e ok (fr.back s1))⟩
theorem xs_forR2 {g : TG} {tb : TS} (h : XA K T ρ o fun dvs ρ1 o1 => ∃ i j : Int, dvs = [.d (.int i), .d (.int j)] ∧ (-(2 ^ 62) ≤ i ∧ i < 2 ^ 62 ∧ -(2 ^ 62) ≤ j ∧ j < 2 ^ 62) ∧ ∃ I : Nat → RE, I 0 ρ1 o1 ∧
      (∀ k ρ' o', k < (j - i).toNat → I k ρ' o' → XG K g (.d (.int (i + (k : Nat)))) ρ' o' fun ρ2 o2 => XS K tb ρ2 o2 (I (k + 1)) R N (I (k + 1))) ∧ ∀ ρ' o', I (j - i).toNat ρ' o' → N ρ' o') : XS K (tFor (iRng2 T) g tb) ρ o N R B C := fun G σ H e D qn qr qb qc =>
  h G σ H e _ fun vs dvs ρ1 o1 G1 H1 ⟨i, j, hd, b, I, i0, it, ie⟩ s1 e1 ok => by
    subst hd
    cases ok with
    | cons h1 h2 =>
    cases h2 with
    | cons h2 h3 =>
    cases h3
    cases h1
    cases h2
    exact ⟨i, j, rfl, b, xs_rng e1 I i0 it ie (fun _ _ _ _ _ n s e => qn _ _ _ _ _ n (s1.trans s) e) (fun _ _ _ _ _ _ _ n s e ok fr => qr _ _ _ _ _ _ _ n (s1.trans s) e ok (fr.back s1))⟩
end
end DL

set_option Elab.async false
set_option linter.all false
set_option maxRecDepth 100000
namespace DL
open PySem PySem.Spec PyProof.Rows L2

/-! ### promises -/
abbrev DS := List DV → Ob → (DV → Ob → Prop) → (Ex → Ob → Prop) → Prop
def spD (K : PySem.W.Frag) (S : DS) : Sp := fun vs H Q E => ∃ G o dvs R X, Wd o G H ∧ VAll K o [] G [] H vs dvs ∧ S dvs o R X ∧
  (∀ v dv o' G' H', R dv o' → Stp [] [] o G H [] [] o' G' H' → Wd o' G' H' → VOk K o' [] G' [] H' v dv → VFr [] [] o H v dv → Q v H') ∧
  (∀ cls fs d o' G' H', X (cls, fs) o' → Stp [] [] o G H [] [] o' G' H' → Wd o' G' H' → EOk K G' H' d fs → E cls d H')
theorem noOwn {a : Addr} : ¬ Own [] [] a := fun ⟨i, ⟨c, h⟩, _⟩ => by simp at h
def toSl : DV → Sl
  | .d x => .val x
  | .raw v => .raw v
  | _ => .no
/-- the names at the entry -/
def startD (n : Nat) (dvs : List DV) : List Sl := dvs.map toSl ++ List.replicate (n - dvs.length) .no
theorem startD_own {n : Nat} {dvs : List DV} {i : Nat} {c : Cont} : (startD n dvs)[i]? ≠ some (.own c) := fun h => by
  unfold startD at h
  by_cases hi : i < dvs.length
  · rw [List.getElem?_append_left (by simpa using hi), List.getElem?_map] at h
    cases q : dvs[i]? with
    | none => rw [q] at h; cases h
    | some d => rw [q] at h; cases d <;> cases h
  · rw [List.getElem?_append_right (by simpa using hi), List.getElem?_replicate] at h
    split at h <;> cases h
theorem noOwnS {n : Nat} {dvs : List DV} {σ : L2.St} {a : Addr} : ¬ Own (startD n dvs) σ a := fun ⟨i, ⟨c, h⟩, _⟩ => startD_own h
theorem VAll.len {K : PySem.W.Frag} {o : Ob} {ρ : List Sl} {G : Hp} {σ : L2.St} {H : Hp} : ∀ {vs : List V} {dvs : List DV}, VAll K o ρ G σ H vs dvs → vs.length = dvs.length
  | _, _, .nil => rfl
  | _, _, .cons _ t => congrArg (· + 1) (VAll.len t)
theorem VAll.at {K : PySem.W.Frag} {o : Ob} {ρ : List Sl} {G : Hp} {σ : L2.St} {H : Hp} : ∀ {vs : List V} {dvs : List DV} {i : Nat} {d : DV}, VAll K o ρ G σ H vs dvs → dvs[i]? = some d → ∃ v, vs[i]? = some v ∧ VOk K o ρ G σ H v d
  | _, _, _, _, .nil, e => by simp at e
  | _, _, 0, _, .cons r _, e => by simp at e; subst e; exact ⟨_, rfl, r⟩
  | _, _, i + 1, x, .cons _ t, e => by
    obtain ⟨u, h1, h2⟩ := VAll.at (i := i) (d := x) t (by simpa using e)
    exact ⟨u, by simpa using h1, h2⟩
theorem en_start {K : Kx} {o : Ob} {G H : Hp} {N : List Str} {vs : List V} {dvs : List DV} (w : Wd o G H) (a : VAll K o [] G [] H vs dvs) (wo : WOk K o (startD N.length dvs) G (L2.start N vs) H) : En K o (startD N.length dvs) G (L2.start N vs) H where
  wo := wo
  wd := w
  len := by
    unfold L2.start startD
    rw [List.length_append, List.length_append, List.length_map, List.length_map, List.length_replicate, List.length_replicate, a.len]
  sl := fun i s h => by
    unfold startD at h
    unfold L2.start
    by_cases hi : i < dvs.length
    · have hi' : i < vs.length := by rw [a.len]; exact hi
      rw [List.getElem?_append_left (by simpa using hi), List.getElem?_map] at h
      rw [List.getElem?_append_left (by simpa using hi'), List.getElem?_map]
      cases q : dvs[i]? with
      | none => rw [q] at h; cases h
      | some d =>
        rw [q] at h
        obtain ⟨v, hv, ok⟩ := a.at q
        rw [hv]
        cases h
        refine ⟨some v, rfl, ?_⟩
        cases d with
        | d x => exact ⟨v, rfl, ok⟩
        | raw u => have ok' : v = u := ok; subst ok'; rfl
        | sl _ _ => trivial
        | new _ => trivial
    · rw [List.getElem?_append_right (by simpa using hi), List.getElem?_replicate] at h
      split at h
      · rename_i hlt
        cases h
        have hi2 : ¬ i < vs.length := by rw [a.len]; exact hi
        rw [List.getElem?_append_right (by simpa using hi2), List.getElem?_replicate]
        have hlt' : i - (vs.map some).length < N.length - vs.length := by
          rw [List.length_map] at hlt ⊢
          rw [a.len]
          exact hlt
        rw [if_pos hlt']
        exact ⟨none, rfl, trivial⟩
      · cases h
  dis := fun i j p h _ => by obtain ⟨⟨c, h⟩, _⟩ := h; exact absurd h startD_own
  onf := fun p h => absurd h noOwnS
/-- how a value leaves a def -/
def OutR (R : DV → Ob → Prop) : RD := fun dv _ o => match dv with
  | .d x => R (.d x) o
  | .raw v => R (.raw v) o
  | .new c => R (.new c) o
  | .sl _ c => R (.new c) o
theorem Stp.bare {ρ ρ' : List Sl} {σ σ' : L2.St} {o o' : Ob} {G H G' H' : Hp} (s : Stp ρ σ o G H ρ' σ' o' G' H') (no : ∀ a, ¬ Own ρ σ a) : Stp [] [] o G H [] [] o' G' H' :=
  ⟨s.g, fun a x e h1 _ => s.h a x e h1 (no a), fun a e h h1 _ => s.n a e h h1 (no a), fun a h => (s.f a h).imp id fun q => q.imp id fun z => absurd z (no a), fun a h => absurd h noOwn⟩
section
variable {P : Program} {w : World} {K : PySem.W.Frag} {mg : Str → Option Value} {base : Heap}
/-- the body's end is the call's -/
theorem out_run {K : Kx} {N : List Str} {vs : List V} {dvs : List DV} {o : Ob} {G H : Hp} {R : DV → Ob → Prop} {Q : VK} {t : TS} (wd : Wd o G H) (a : VAll K o [] G [] H vs dvs)
    (q : ∀ v dv o' G' H', R dv o' → Stp [] [] o G H [] [] o' G' H' → Wd o' G' H' → VOk K o' [] G' [] H' v dv → VFr [] [] o H v dv → Q v H')
    (wo : WOk K o (startD N.length dvs) G (L2.start N vs) H)
    (hx : XS K t (startD N.length dvs) o (fun _ o' => R (.d .none) o') (OutR R) (fun _ _ => False) (fun _ _ => False)) : t { nx := fun _ H' => Q .non H', rt := Q } (L2.start N vs) H := by
  refine hx G (L2.start N vs) H (en_start wd a wo) _ (fun ρ' o' G' σ' H' n s e => ?_) (fun v dv ρ' o' G' σ' H' r s e ok fr => ?_) (fun _ _ _ _ _ z => z.elim) (fun _ _ _ _ _ z => z.elim)
  · exact q _ _ _ _ _ n (s.bare fun _ => noOwnS) e.wd .non trivial
  · have sb := s.bare fun _ => noOwnS
    cases dv with
    | d x => exact q _ _ _ _ _ r sb e.wd ok trivial
    | raw u => exact q _ _ _ _ _ r sb e.wd ok trivial
    | new c =>
      obtain ⟨p, y, rfl, g1, h1, ok, nf, _⟩ := ok
      exact q _ _ _ _ _ r sb e.wd ⟨p, y, rfl, g1, h1, ok, nf, noOwn⟩ fun p' hp => (fr p' hp).imp id fun z => z.imp id fun z => absurd z noOwnS
    | sl i c =>
      obtain ⟨p, y, k1, g1, h1, ok', nf⟩ := e.own_at ok.2
      have hv := ok.1
      rw [k1] at hv
      cases hv
      refine q _ _ _ _ _ r sb e.wd ⟨p, y, rfl, g1, h1, ok', nf, noOwn⟩ fun p' hp => ?_
      cases hp
      rcases s.w p ⟨i, ⟨c, ok.2⟩, k1⟩ with z | z | z
      · exact absurd z noOwnS
      · exact .inl z
      · exact .inr (.inl z)
/-- nothing is raised -/
abbrev KN (K : PySem.W.Frag) : Kx := ⟨K, fun _ _ _ _ => False, fun _ _ _ => False⟩
theorem wo_none {K : PySem.W.Frag} {W : WX} {o : Ob} {ρ : List Sl} {G : Hp} {σ : L2.St} {H : Hp} : WOk ⟨K, W, fun _ _ _ => False⟩ o ρ G σ H := fun _ _ _ _ _ _ _ _ z => z.elim
/-- THE RULE for a def, deeply -/
theorem fnD {x qual : Str} {st : Stmt} {f : Addr} {fd : FuncData} {N ps : List Str} {k : Nat} {S : DS} (F : Fun K x qual st f fd) (Sc : FnScope N ps (defScope st))
    (len : ∀ dvs o R X, S dvs o R X → dvs.length = ps.length)
    (hb : ∀ (cdv : Value) (A : Around) (outer : List Env) (s : Shared) (H : Hp) (E : XK), Room k (A.deeper (envOfC qual (defScope st) s.heap.objs.size f cdv)) →
      ∃ t, PSs (cxOf CX0 P w K mg base N qual (defScope st) f cdv A outer s H E).nox (defBody st) t ∧ ∀ dvs o R X, S dvs o R X → XS (KN K) t (startD N.length dvs) o (fun _ o' => R (.d .none) o') (OutR R) (fun _ _ => False) (fun _ _ => False)) :
    FnOk P w K mg base CX0 (k + 1) f fd ps (spD K S) := by
  refine F.ok Sc (fun vs H Q E ⟨G, o, dvs, R, X, _, a, h, _⟩ => by rw [a.len]; exact len dvs o R X h) fun cdv A outer s H vs Q E hr ⟨G, o, dvs, R, X, wd, a, h, q, _⟩ => ?_
  obtain ⟨t, ht, hx⟩ := hb cdv A outer s H E hr
  exact ⟨t, ht, out_run (K := KN K) wd a q wo_none (hx dvs o R X h)⟩
/-- .. for a def that may raise -/
theorem fnDX {x qual : Str} {st : Stmt} {f : Addr} {fd : FuncData} {N ps : List Str} {k : Nat} {S : DS} (F : Fun K x qual st f fd) (Sc : FnScope N ps (defScope st))
    (len : ∀ dvs o R X, S dvs o R X → dvs.length = ps.length)
    (hb : ∀ (cdv : Value) (A : Around) (outer : List Env) (s : Shared) (H : Hp) (E : XK), Room k (A.deeper (envOfC qual (defScope st) s.heap.objs.size f cdv)) →
      ∃ t, PSs (cxOf (L2.CX P w) P w K mg base N qual (defScope st) f cdv A outer s H E) (defBody st) t ∧ ∀ dvs o R X, S dvs o R X → XS ⟨K, fun cls d _ H => E cls d H, fun ex _ o' => X ex o'⟩ t (startD N.length dvs) o (fun _ o' => R (.d .none) o') (OutR R) (fun _ _ => False) (fun _ _ => False)) :
    FnOk P w K mg base (L2.CX P w) (k + 1) f fd ps (spD K S) := by
  refine F.okX Sc (fun vs H Q E ⟨G, o, dvs, R, X, _, a, h, _⟩ => by rw [a.len]; exact len dvs o R X h) fun cdv A outer s H vs Q E hr ⟨G, o, dvs, R, X, wd, a, h, q, qx⟩ => ?_
  obtain ⟨t, ht, hx⟩ := hb cdv A outer s H E hr
  exact ⟨t, ht, out_run (K := ⟨K, fun cls d _ H => E cls d H, fun ex _ o' => X ex o'⟩) wd a q (fun cls fs d ρ' o' G' σ' H' z s e ok => qx cls fs d o' G' H' z (s.bare fun _ => noOwnS) e.wd ok) (hx dvs o R X h)⟩
end

/-! ### calls -/
section
variable {K : Kx} {ρ : List Sl} {o : Ob} {R : RD} {N B C : RE} {te ta tb : TE} {tt : TT} {i : Nat} {T : TA}
theorem VAll.bare {G : Hp} {σ : L2.St} {H : Hp} {vs : List V} {dvs : List DV} (a : VAll K o ρ G σ H vs dvs) (h : ∀ d ∈ dvs, (∃ x, d = .d x) ∨ ∃ v, d = .raw v) : VAll K o [] G [] H vs dvs := by
  induction a with
  | nil => exact .nil
  | cons h1 _ ih =>
    refine .cons ?_ (ih fun d hd => h d (List.mem_cons_of_mem _ hd))
    rcases h _ List.mem_cons_self with ⟨x, rfl⟩ | ⟨v, rfl⟩
    · exact h1
    · exact h1
theorem call_run {S : DS} {E : XK} {Q : VK} {G H : Hp} {σ : L2.St} {G1 H1 : Hp} {ρ1 : List Sl} {o1 : Ob} {vs : List V} {dvs : List DV} (q : XQ K ρ o G σ H R Q) (hd : ∀ d ∈ dvs, (∃ x, d = .d x) ∨ ∃ v, d = .raw v) {Z : Ex → Ob → Prop}
    (r : S dvs o1 (fun dv o2 => R dv ρ1 o2) Z) (hz : ∀ cls fs d o2 G2 H2, Z (cls, fs) o2 → Stp ρ1 σ o1 G1 H1 ρ1 σ o2 G2 H2 → EnB K o2 ρ1 G2 σ H2 → EOk K G2 H2 d fs → E cls d H2)
    (s1 : Stp ρ σ o G H ρ1 σ o1 G1 H1) (e1 : En K o1 ρ1 G1 σ H1) (ok : VAll K o1 ρ1 G1 σ H1 vs dvs) : spD K S vs H1 Q E := by
    have stp : ∀ {o2 G2 H2}, Stp [] [] o1 G1 H1 [] [] o2 G2 H2 → Stp ρ1 σ o1 G1 H1 ρ1 σ o2 G2 H2 := fun {o2 G2 H2} s2 => ⟨s2.g, fun a x ex h1 _ => s2.h a x ex h1 noOwn, fun a ex h h1 _ => s2.n a ex h h1 noOwn, fun a h => (s2.f a h).imp id fun z => z.imp id fun z => absurd z noOwn, fun a h => .inl h⟩
    have en : ∀ {o2 G2 H2}, Stp [] [] o1 G1 H1 [] [] o2 G2 H2 → Wd o2 G2 H2 → En K o2 ρ1 G2 σ H2 := fun {o2 G2 H2} s2 w2 => e1.step (stp s2) w2 fun a ha => by
      obtain ⟨g, y, hy⟩ := e1.occ_own ha
      have nf := e1.onf a ha
      refine ⟨s2.n a g ⟨y, hy⟩ nf noOwn, (s2.h a y hy nf noOwn).trans hy.symm, fun z => ?_⟩
      rcases s2.f a z with q | q | q
      · exact nf q
      · rw [hy] at q; cases q
      · exact noOwn q
    refine ⟨G1, o1, dvs, _, _, e1.wd, ok.bare hd, r, fun v dv o2 G2 H2 r2 s2 w2 ok2 fr => ?_, fun cls fs d o2 G2 H2 z s2 w2 ek => hz cls fs d o2 G2 H2 z (stp s2) (en s2 w2).toEnB ek⟩
    have s2' := stp s2
    have e2 := en s2 w2
    have old : ∀ p, (H1 p = none ∨ o1.fp p ∨ Own [] [] p) → H1 p = none ∨ o1.fp p ∨ Own ρ1 σ p := fun p z => z.imp id fun z => z.imp id fun z => absurd z noOwn
    cases dv with
    | d x => exact q _ _ _ _ _ _ r2 (s1.trans s2') e2 ok2 trivial
    | raw u => exact q _ _ _ _ _ _ r2 (s1.trans s2') e2 ok2 trivial
    | sl _ _ => obtain ⟨z, _⟩ := ok2; simp at z
    | new c =>
      obtain ⟨p, y, rfl, g1, h1, ok, nf, _⟩ := ok2
      refine q _ _ _ _ _ _ r2 (s1.trans s2') e2 ⟨p, y, rfl, g1, h1, ok, nf, fun z => ?_⟩ fun p' hp => ?_
      · obtain ⟨g, y', hy⟩ := e1.occ_own z
        rcases fr p rfl with q | q | q
        · rw [hy] at q; cases q
        · exact e1.onf p z q
        · exact noOwn q
      · cases hp
        exact s1.old (old p (fr p rfl))
theorem xe_call {S : DS} {E : XK} (h : XAF K T ρ o fun dvs ρ1 o1 => S dvs o1 (fun dv o2 => R dv ρ1 o2) (fun _ _ => False)) : XE K (tCall (spD K S) [] E T) ρ o R := fun G σ H e Q q =>
  h G σ H e _ fun vs dvs ρ1 o1 G1 H1 ⟨hd, r⟩ s1 e1 ok => by
    show spD K S (vs ++ []) H1 Q E
    rw [List.append_nil]
    exact call_run q hd r (fun _ _ _ _ _ _ z => z.elim) s1 e1 ok
/-- a call that may raise -/
theorem xe_callS {S : DS} (h : XAF K T ρ o fun dvs ρ1 o1 => S dvs o1 (fun dv o2 => R dv ρ1 o2) (fun ex o2 => K.Z ex ρ1 o2)) : XE K (tCallS (spD K S) (WE K.W) T) ρ o R := fun G σ H e Q q =>
  h G σ H e _ fun vs dvs ρ1 o1 G1 H1 ⟨hd, r⟩ s1 e1 ok => call_run q hd r (fun cls fs d o2 G2 H2 z s2 e2 ek => e1.wo cls fs d ρ1 o2 G2 σ H2 z s2 e2 ek) s1 e1 ok
/-- a built-in by the values -/
def XC (K : Kx) (r : List V → Hp → VK → Prop) (dvs : List DV) (ρ : List Sl) (o : Ob) (R : RD) : Prop :=
  ∀ G σ H vs, En K o ρ G σ H → VAll K o ρ G σ H vs dvs → ∀ Q, XQ K ρ o G σ H R Q → r vs H Q
theorem xe_cb {r : List V → Hp → VK → Prop} (h : XA K T ρ o fun dvs ρ1 o1 => XC K r dvs ρ1 o1 R) : XE K (tCB r T) ρ o R := fun G σ H e Q q =>
  h G σ H e _ fun vs dvs ρ1 o1 G1 H1 r1 s1 e1 ok => r1 G1 σ H1 vs e1 ok Q fun v dv ρ2 o2 G2 H2 r s e ok fr => q _ _ _ _ _ _ r (s1.trans s) e ok (fr.back s1)
theorem xc_or1 {r r' : List V → Hp → VK → Prop} {a : List DV} (h : XC K r a ρ o R) : XC K (fun x H Q => r x H Q ∨ r' x H Q) a ρ o R := fun G σ H x e h1 Q q => .inl (h G σ H x e h1 Q q)
theorem xc_or2 {r r' : List V → Hp → VK → Prop} {a : List DV} (h : XC K r' a ρ o R) : XC K (fun x H Q => r x H Q ∨ r' x H Q) a ρ o R := fun G σ H x e h1 Q q => .inr (h G σ H x e h1 Q q)
theorem va1 {G : Hp} {σ : L2.St} {H : Hp} {vs : List V} {d : DV} (a : VAll K o ρ G σ H vs [d]) : ∃ v, vs = [v] ∧ VOk K o ρ G σ H v d := by
  cases a with
  | cons h t => cases t; exact ⟨_, rfl, h⟩
theorem va2 {G : Hp} {σ : L2.St} {H : Hp} {vs : List V} {d e : DV} (a : VAll K o ρ G σ H vs [d, e]) : ∃ v u, vs = [v, u] ∧ VOk K o ρ G σ H v d ∧ VOk K o ρ G σ H u e := by
  cases a with
  | cons h t => obtain ⟨u, rfl, k⟩ := va1 t; exact ⟨_, _, rfl, h, k⟩
theorem xc_lenS {z : Str} (c : z.length ≤ sizeLine) (r : R (.d (.int z.length)) ρ o) : XC K (fun xs H Q => ∃ x n, xs = [x] ∧ LenV K x H n ∧ Q (.int (n : Nat)) H) [.d (.str z)] ρ o R := fun G σ H vs e h0 Q q => by
  obtain ⟨v, rfl, h⟩ := va1 h0
  cases vok_str h
  exact ⟨_, z.length, rfl, ⟨c, rfl⟩, xq_now q e r (.int _)⟩
theorem xc_lenL {d : DV} {ds : List PyData} (l : IsL ρ d ds) (r : R (.d (.int ds.length)) ρ o) : XC K (fun xs H Q => ∃ x n, xs = [x] ∧ LenV K x H n ∧ Q (.int (n : Nat)) H) [d] ρ o R := fun G σ H vs e h0 Q q => by
  obtain ⟨v, rfl, h⟩ := va1 h0
  obtain ⟨p, xs, rfl, hp, ok⟩ := l.at e h
  refine ⟨_, xs.length, rfl, .inl ⟨xs, .inl (.inl hp), rfl⟩, ?_⟩
  rw [ok.len]
  exact xq_now q e r (.int _)
theorem xc_lenT {ds : List PyData} (r : R (.d (.int ds.length)) ρ o) : XC K (fun xs H Q => ∃ x n, xs = [x] ∧ LenV K x H n ∧ Q (.int (n : Nat)) H) [.d (.tuple ds)] ρ o R := fun G σ H vs e h0 Q q => by
  obtain ⟨v, rfl, h⟩ := va1 h0
  cases h with
  | @tup a xs _ h1 h2 =>
  refine ⟨_, xs.length, rfl, .inr ⟨xs, SqT.sub e.wd.sub h1, rfl⟩, ?_⟩
  rw [h2.len]
  exact xq_now q e r (.int _)
theorem xc_min2 {a b : Int} (r : R (.d (.int (if b < a then b else a))) ρ o) : XC K (fun xs H Q => ∃ i j, xs = [.int i, .int j] ∧ Q (.int (if j < i then j else i)) H) [.d (.int a), .d (.int b)] ρ o R := fun G σ H vs e h Q q => by
  obtain ⟨v, u, rfl, h1, h2⟩ := va2 h
  cases vok_int h1
  cases vok_int h2
  exact ⟨a, b, rfl, xq_now q e r (.int _)⟩
theorem xc_max2 {a b : Int} (r : R (.d (.int (if b > a then b else a))) ρ o) : XC K (fun xs H Q => ∃ i j, xs = [.int i, .int j] ∧ Q (.int (if j > i then j else i)) H) [.d (.int a), .d (.int b)] ρ o R := fun G σ H vs e h Q q => by
  obtain ⟨v, u, rfl, h1, h2⟩ := va2 h
  cases vok_int h1
  cases vok_int h2
  exact ⟨a, b, rfl, xq_now q e r (.int _)⟩
theorem xc_sum {d : DV} {ns : List Int} (l : IsL ρ d (ns.map .int)) (r : R (.d (.int ns.sum)) ρ o) : XC K (rSum K) [d] ρ o R := fun G σ H vs e h0 Q q => by
  obtain ⟨v, rfl, h⟩ := va1 h0
  obtain ⟨p, xs, rfl, hp, ok⟩ := l.at e h
  refine ⟨p, ns, rfl, ?_, xq_now q e r (.int _)⟩
  rw [← ok.of_ints]
  exact .inl (.inl hp)

/-! ### methods -/
def TyD (T : String) : DV → Prop
  | .d (.str _) => T = "str"
  | .d (.list _) => T = "list"
  | .sl _ (.lst _) => T = "list"
  | .new (.lst _) => T = "list"
  | _ => False
theorem TyD.ok {T : String} {d : DV} (t : TyD T d) {G : Hp} {σ : L2.St} {H : Hp} {x : V} (e : En K o ρ G σ H) (h : VOk K o ρ G σ H x d) : tyV K T x H := by
  have lst : ∀ {d : DV} {ds : List PyData}, IsL ρ d ds → T = "list" → VOk K o ρ G σ H x d → tyV K T x H := fun {d ds} l ht h => by
    obtain ⟨p, xs, rfl, hp, _⟩ := l.at e h
    exact .inl ⟨ht, xs, .inl (.inl hp)⟩
  cases d with
  | d z => cases z <;> first | exact t.elim | (cases vok_str h; exact t) | exact lst (d := .d (.list _)) rfl t h
  | raw _ => exact t.elim
  | sl i c => cases c <;> first | exact t.elim | exact lst (d := .sl _ (.lst _)) rfl t h
  | new c => cases c <;> first | exact t.elim | exact lst (d := .new (.lst _)) rfl t h
def XM (K : Kx) (r : V → List V → Hp → VK → Prop) (a : DV) (bs : List DV) (ρ : List Sl) (o : Ob) (R : RD) : Prop :=
  ∀ G σ H x vs, En K o ρ G σ H → VOk K o ρ G σ H x a → VAll K o ρ G σ H vs bs → ∀ Q, XQ K ρ o G σ H R Q → r x vs H Q
theorem xe_bm {Ty : String} {r : V → List V → Hp → VK → Prop} {to : TE} (h : XE K to ρ o fun a ρ1 o1 => TyD Ty a ∧ XA K T ρ1 o1 fun bs ρ2 o2 => Kept ρ2 a ∧ XM K r a bs ρ2 o2 R) : XE K (tBM K Ty r to T) ρ o R := fun G σ H e Q q =>
  h.seq e fun x a ρ1 o1 G1 H1 ⟨ty, r1⟩ s1 e1 ok1 fr1 => ⟨ty.ok e1 ok1, r1 G1 σ H1 e1 _ fun vs bs ρ2 o2 G2 H2 ⟨kp, r2⟩ s2 e2 ok2 =>
    r2 G2 σ H2 x vs e2 (ok1.step s2 kp) ok2 Q fun v dv ρ3 o3 G3 H3 r s e ok fr => q _ _ _ _ _ _ r ((s1.trans s2).trans s) e ok (fr.back (s1.trans s2))⟩
theorem xe_bmF {Ty : String} {r : V → List V → Hp → VK → Prop} {to : TE} (h : XE K to ρ o fun a ρ1 o1 => TyD Ty a ∧ XAF K T ρ1 o1 fun bs ρ2 o2 => Kept ρ2 a ∧ XM K r a bs ρ2 o2 R) : XE K (tBM K Ty r to T) ρ o R :=
  xe_bm (XE.mono h fun a ρ1 o1 ⟨ty, h⟩ => ⟨ty, XA.mono h fun bs ρ2 o2 ⟨_, h⟩ => h⟩)
theorem xe_bm0 {Ty : String} {r : V → List V → Hp → VK → Prop} {to : TE} (h : XE K to ρ o fun a ρ1 o1 => TyD Ty a ∧ XM K r a [] ρ1 o1 R) : XE K (tBM0 K Ty r to) ρ o R := fun G σ H e Q q =>
  h.seq e fun x a ρ1 o1 G1 H1 ⟨ty, r1⟩ s1 e1 ok1 fr1 => ⟨ty.ok e1 ok1, r1 G1 σ H1 x [] e1 ok1 .nil Q fun v dv ρ3 o3 G3 H3 r s e ok fr => q _ _ _ _ _ _ r (s1.trans s) e ok (fr.back s1)⟩
theorem xm_append {ds : List PyData} {d : PyData} (c : ds.length < sizeLine) (h : ρ[i]? = some (.own (.lst ds))) (r : R (.d .none) (ρ.set i (.own (.lst (ds ++ [d])))) o) : XM K rAppend (.sl i (.lst ds)) [.d d] ρ o R := fun G σ H x vs e hx hv0 Q q => by
  obtain ⟨v, rfl, hv⟩ := va1 hv0
  obtain ⟨p, y, k1, g1, h1, ok, nf⟩ := e.own_at hx.2
  have hs := hx.1
  rw [k1] at hs
  cases hs
  obtain ⟨xs, rfl⟩ : ∃ xs, y = .lst xs := by cases y <;> first | exact ⟨_, rfl⟩ | exact ok.elim
  have ok : RpAll K G xs ds := ok
  have ok2 : COk K G (.lst (xs ++ [v])) (.lst (ds ++ [d])) := ok.append (.cons hv .nil)
  exact ⟨p, xs, v, rfl, rfl, h1, by rw [ok.len]; exact c, q _ _ _ _ _ _ r (e.mut hx.2 k1 ok2).2 (e.mut hx.2 k1 ok2).1 .non trivial⟩
theorem xm_pop {ds : List PyData} {d : PyData} (c : ds[ds.length - 1]? = some d) (h : ρ[i]? = some (.own (.lst ds))) (r : R (.d d) (ρ.set i (.own (.lst ds.dropLast))) o) : XM K rPop (.sl i (.lst ds)) [] ρ o R := fun G σ H x vs e hx hv Q q => by
  cases hv
  obtain ⟨p, y, k1, g1, h1, ok, nf⟩ := e.own_at hx.2
  have hs := hx.1
  rw [k1] at hs
  cases hs
  obtain ⟨xs, rfl⟩ : ∃ xs, y = .lst xs := by cases y <;> first | exact ⟨_, rfl⟩ | exact ok.elim
  have ok : RpAll K G xs ds := ok
  have ok2 : COk K G (.lst xs.dropLast) (.lst ds.dropLast) := by
    show RpAll K G _ _
    rw [List.dropLast_eq_take, List.dropLast_eq_take, ok.len]
    exact ok.take _
  obtain ⟨v, hv, rv⟩ := ok.get' c
  exact ⟨p, xs, v, rfl, rfl, h1, by rw [ok.len]; exact hv, q _ _ _ _ _ _ r (e.mut hx.2 k1 ok2).2 (e.mut hx.2 k1 ok2).1 rv trivial⟩
theorem xm_split {a b : Str} (h1 : (b.length == 0) = false) (h2 : a.length + 2 ≤ sizeLine) (r : R (.new (.lst ((Txt.split a b).map .str))) ρ o) :
    XM K (fun x xs H Q => ∃ a b, x = .str a ∧ xs = [.str b] ∧ (b.length == 0) = false ∧ a.length + 2 ≤ sizeLine ∧ rNewStrs (Txt.split a b) H Q) (.d (.str a)) [.d (.str b)] ρ o R := fun G σ H x vs e hx hv0 Q q => by
  obtain ⟨v, rfl, hv⟩ := va1 hv0
  cases vok_str hx
  cases vok_str hv
  exact ⟨a, b, rfl, rfl, h1, h2, xq_new q e r RpAll.strs⟩
/-- a text's method of one text: a number comes -/
theorem xm_s1i {f : Str → Str → Int} {a b : Str} (r : R (.d (.int (f a b))) ρ o) : XM K (fun x xs H Q => ∃ a b, x = .str a ∧ xs = [.str b] ∧ Q (.int (f a b)) H) (.d (.str a)) [.d (.str b)] ρ o R := fun G σ H x vs e hx hv0 Q q => by
  obtain ⟨v, rfl, hv⟩ := va1 hv0
  cases vok_str hx
  cases vok_str hv
  exact ⟨a, b, rfl, rfl, xq_now q e r (.int _)⟩
theorem xm_s2i {f : Str → Str → Int → Int} {a b : Str} {n : Int} (r : R (.d (.int (f a b n))) ρ o) : XM K (fun x xs H Q => ∃ (a b : Str) (i : Int), x = .str a ∧ xs = [.str b, .int i] ∧ Q (.int (f a b i)) H) (.d (.str a)) [.d (.str b), .d (.int n)] ρ o R := fun G σ H x vs e hx hv0 Q q => by
  obtain ⟨v, u, rfl, hv, hu⟩ := va2 hv0
  cases vok_str hx
  cases vok_str hv
  cases vok_int hu
  exact ⟨a, b, n, rfl, rfl, xq_now q e r (.int _)⟩

/-! ### subscripts, slices -/
theorem atI_rep {G : Hp} {xs : List V} {ds : List PyData} (ok : RpAll K G xs ds) {n : Int} {d : PyData} (h : atI ds n = some d) : ∃ x, atI xs n = some x ∧ Rp K G x d := by
  unfold atI at h ⊢
  rw [ok.len]
  cases q : ixN ds.length n with
  | none => rw [q] at h; cases h
  | some j =>
    rw [q] at h
    exact ok.get' h
theorem xr_ixL {a : DV} {ds : List PyData} {n : Int} {d : PyData} (l : IsL ρ a ds) (h : atI ds n = some d) (r : R (.d d) ρ o) : XR K (rIx K) a (.d (.int n)) ρ o R := fun G σ H x y e h1 h2 Q q => by
  obtain ⟨p, xs, rfl, hp, ok⟩ := l.at e h1
  cases vok_int h2
  obtain ⟨v, hv, rv⟩ := atI_rep ok h
  exact .inl ⟨p, xs, n, v, rfl, rfl, .inl (.inl hp), hv, xq_now q e r rv⟩
theorem xr_ixT {ds : List PyData} {n : Int} {d : PyData} (h : atI ds n = some d) (r : R (.d d) ρ o) : XR K (rIx K) (.d (.tuple ds)) (.d (.int n)) ρ o R := fun G σ H x y e h1 h2 Q q => by
  cases h1 with
  | @tup p xs _ hp ok =>
  cases vok_int h2
  obtain ⟨v, hv, rv⟩ := atI_rep ok h
  exact .inr (.inl ⟨p, xs, n, v, rfl, rfl, SqT.sub e.wd.sub hp, hv, xq_now q e r rv⟩)
theorem xr_ixS {z : Str} {n : Int} {c : Nat} (hl : z.length ≤ sizeLine) (h : atI z.cps.toList n = some c) (r : R (.d (.str ⟨#[c]⟩)) ρ o) : XR K (rIx K) (.d (.str z)) (.d (.int n)) ρ o R := fun G σ H x y e h1 h2 Q q => by
  cases vok_str h1
  cases vok_int h2
  exact .inr (.inr ⟨z, n, c, rfl, rfl, hl, h, xq_now q e r (.str _)⟩)
/-- a part of a slice -/
def XO (K : Kx) (to : TO) (ρ : List Sl) (o : Ob) (R : Option Int → RE) : Prop :=
  ∀ G σ H, En K o ρ G σ H → ∀ Q : Option Int → Hp → Prop, (∀ b ρ' o' G' H', R b ρ' o' → Stp ρ σ o G H ρ' σ o' G' H' → En K o' ρ' G' σ H' → Q b H') → to σ H Q
theorem xo_no {R : Option Int → RE} (r : R none ρ o) : XO K tNoPart ρ o R := fun G σ H e Q q => q _ _ _ _ _ r Stp.refl e
theorem xo_part {R : Option Int → RE} (h : XE K te ρ o fun dv ρ1 o1 => ∃ n, dv = .d (.int n) ∧ R (some n) ρ1 o1) : XO K (tPart te) ρ o R := fun G σ H e Q q =>
  h.seq e fun v dv ρ1 o1 G1 H1 ⟨n, hd, r⟩ s1 e1 ok fr => by subst hd; exact ⟨n, vok_int ok, q _ _ _ _ _ r s1 e1⟩
def XSl (K : Kx) (r : V → Option Int → Option Int → Hp → VK → Prop) (a : DV) (l u : Option Int) (ρ : List Sl) (o : Ob) (R : RD) : Prop :=
  ∀ G σ H x, En K o ρ G σ H → VOk K o ρ G σ H x a → ∀ Q, XQ K ρ o G σ H R Q → r x l u H Q
theorem xe_sl {r : V → Option Int → Option Int → Hp → VK → Prop} {tl th : TO} (h : XE K te ρ o fun a ρ1 o1 => XO K tl ρ1 o1 fun l ρ2 o2 => XO K th ρ2 o2 fun u ρ3 o3 => Kept ρ3 a ∧ XSl K r a l u ρ3 o3 R) : XE K (tSl r te tl th) ρ o R := fun G σ H e Q q =>
  h.seq e fun x a ρ1 o1 G1 H1 r1 s1 e1 ok1 fr1 => r1 G1 σ H1 e1 _ fun l ρ2 o2 G2 H2 r2 s2 e2 => r2 G2 σ H2 e2 _ fun u ρ3 o3 G3 H3 ⟨kp, r3⟩ s3 e3 =>
    r3 G3 σ H3 x e3 (ok1.step (s2.trans s3) kp) Q fun v dv ρ4 o4 G4 H4 r s e ok fr => q _ _ _ _ _ _ r ((s1.trans (s2.trans s3)).trans s) e ok (fr.back (s1.trans (s2.trans s3)))
theorem xsl_or1 {r r' : V → Option Int → Option Int → Hp → VK → Prop} {a : DV} {l u : Option Int} (h : XSl K r a l u ρ o R) : XSl K (fun x lo hi H Q => r x lo hi H Q ∨ r' x lo hi H Q) a l u ρ o R := fun G σ H x e h1 Q q => .inl (h G σ H x e h1 Q q)
theorem xsl_or2 {r r' : V → Option Int → Option Int → Hp → VK → Prop} {a : DV} {l u : Option Int} (h : XSl K r' a l u ρ o R) : XSl K (fun x lo hi H Q => r x lo hi H Q ∨ r' x lo hi H Q) a l u ρ o R := fun G σ H x e h1 Q q => .inr (h G σ H x e h1 Q q)
theorem xsl_str {z : Str} {l u : Option Int} (hl : z.length ≤ sizeLine) (r : R (.d (.str (cutS z l u))) ρ o) : XSl K rSlS (.d (.str z)) l u ρ o R := fun G σ H x e h1 Q q => by
  cases vok_str h1
  exact ⟨z, rfl, hl, xq_now q e r (.str _)⟩
/-- a slice of data -/
def cutD (xs : List PyData) (lo hi : Option Int) : List PyData := (xs.drop (HT.sIx xs.length 0 lo)).take (HT.sIx xs.length xs.length hi - HT.sIx xs.length 0 lo)
theorem cut_rep {G : Hp} {xs : List V} {ds : List PyData} (ok : RpAll K G xs ds) (l u : Option Int) : RpAll K G (cutV xs l u) (cutD ds l u) := by
  unfold cutV cutD
  rw [ok.len]
  exact (ok.drop _).take _
theorem xsl_list {a : DV} {ds : List PyData} {l u : Option Int} (hl : IsL ρ a ds) (r : R (.new (.lst (cutD ds l u))) ρ o) : XSl K (rSlL K) a l u ρ o R := fun G σ H x e h1 Q q => by
  obtain ⟨p, xs, rfl, hp, ok⟩ := hl.at e h1
  exact ⟨p, xs, rfl, .inl (.inl hp), xq_new q e r (cut_rep ok l u)⟩

/-! ### more loops -/
/-- for over a text -/
theorem xs_forS {tl : TE} {g : TG} {tb : TS} (h : XE K tl ρ o fun dv ρ1 o1 => ∃ z, dv = .d (.str z) ∧ ∃ I : Nat → RE, I 0 ρ1 o1 ∧
      (∀ k c ρ' o', z.cps[k]? = some c → I k ρ' o' → XG K g (.d (.str ⟨#[c]⟩)) ρ' o' fun ρ2 o2 => XS K tb ρ2 o2 (I (k + 1)) R N (I (k + 1))) ∧ ∀ ρ' o', I z.cps.size ρ' o' → N ρ' o') : XS K (tFor (iStr tl) g tb) ρ o N R B C := fun G σ H e D qn qr qb qc =>
  XE.seq h e fun v dv ρ1 o1 G1 H1 ⟨z, hd, I, i0, it, ie⟩ s1 e1 ok fr => by
    subst hd
    cases vok_str ok
    refine ⟨z, rfl, fun k m σ' H' => m = z.cps.size - k ∧ k ≤ z.cps.size ∧ LoopP K (I k) ρ σ o G H σ' H', ⟨_, rfl, Nat.zero_le _, ρ1, o1, G1, i0, s1, e1⟩, ?_⟩
    rintro k m σ1 H2 ⟨rfl, hk, ρ', o', G', ik, s', e'⟩
    by_cases hlt : k < z.cps.size
    · refine .inr ⟨hlt, LoopP K (I (k + 1)) ρ σ o G H, fun σ' H' p => ⟨z.cps.size - (k + 1), by omega, rfl, hlt, p⟩, fun x H3 y => ?_⟩
      obtain ⟨rfl, c, hc, rfl⟩ := y
      refine it k c ρ' o' hc ik G' σ1 _ _ e' (.str _) _ fun ρ2 o2 G2 σ2 H4 r s2 e2 => ?_
      have s12 := s'.trans s2
      exact r G2 σ2 H4 e2 _ (fun _ _ _ _ _ n s e => ⟨_, _, _, n, s12.trans s, e⟩) (fun _ _ _ _ _ _ _ n s e ok fr => qr _ _ _ _ _ _ _ n (s12.trans s) e ok (fr.back s12))
        (fun _ _ _ _ _ n s e => qn _ _ _ _ _ n (s12.trans s) e) (fun _ _ _ _ _ n s e => ⟨_, _, _, n, s12.trans s, e⟩)
    · have ek : k = z.cps.size := by omega
      subst ek
      exact .inl ⟨Nat.le_refl _, qn _ _ _ _ _ (ie _ _ ik) s' e'⟩
/-- for over zip of two lists -/
theorem xs_forZ {g : TG} {tb : TS} (h : XAF K T ρ o fun dvs ρ1 o1 => ∃ ds es, dvs = [.d (.list ds), .d (.list es)] ∧ ∃ I : Nat → RE, I 0 ρ1 o1 ∧
      (∀ k d d' ρ' o', ds[k]? = some d → es[k]? = some d' → I k ρ' o' → XG K g (.d (.tuple [d, d'])) ρ' o' fun ρ2 o2 => XS K tb ρ2 o2 (I (k + 1)) R N (I (k + 1))) ∧ ∀ ρ' o', I (min ds.length es.length) ρ' o' → N ρ' o') :
    XS K (tFor (iZip K T) g tb) ρ o N R B C := fun G σ H e D qn qr qb qc =>
  h G σ H e _ fun vs dvs ρ1 o1 G1 H1 ⟨_, ds, es, hd, I, i0, it, ie⟩ s1 e1 ok => by
    subst hd
    obtain ⟨v, u, rfl, h1, h2⟩ := va2 ok
    cases h1 with
    | @lst a xs _ hg hx =>
    cases h2 with
    | @lst b ys _ hg' hy =>
    refine ⟨a, b, xs, ys, rfl, .inl (.inl (e1.wd.sub _ _ hg)), .inl (.inl (e1.wd.sub _ _ hg')), ?_⟩
    refine ⟨fun k m σ' H' => m = min ds.length es.length - k ∧ k ≤ min ds.length es.length ∧ ∃ ρ' o' G', I k ρ' o' ∧ Stp ρ σ o G H ρ' σ' o' G' H' ∧ En K o' ρ' G' σ' H' ∧ Sub G1 G', ⟨_, rfl, Nat.zero_le _, ρ1, o1, G1, i0, s1, e1, Sub.refl⟩, ?_⟩
    rintro k m σ1 H2 ⟨rfl, hk, ρ', o', G', ik, s', e', sb⟩
    have qa : SqL K H2 a xs := .inl (.inl (e'.wd.sub _ _ (sb _ _ hg)))
    have qb' : SqL K H2 b ys := .inl (.inl (e'.wd.sub _ _ (sb _ _ hg')))
    by_cases hlt : k < min ds.length es.length
    · have l1 : k < xs.length := by rw [hx.len]; omega
      have l2 : k < ys.length := by rw [hy.len]; omega
      refine .inr ⟨⟨xs, ys, xs[k], ys[k], qa, qb', List.getElem?_eq_getElem l1, List.getElem?_eq_getElem l2⟩, fun σ' H' => ∃ ρ' o' G', I (k + 1) ρ' o' ∧ Stp ρ σ o G H ρ' σ' o' G' H' ∧ En K o' ρ' G' σ' H' ∧ Sub G1 G', fun σ' H' p => ⟨min ds.length es.length - (k + 1), by omega, rfl, hlt, p⟩, fun x H3 y => ?_⟩
      obtain ⟨T, x, y, rfl, hT, rfl, hxx, hyy⟩ := y
      obtain ⟨d, hd, rx⟩ := hx.get (hxx _ qa)
      obtain ⟨d', hd', ry⟩ := hy.get (hyy _ qb')
      have gT := e'.wd.gnone hT
      have sT : Stp ρ' σ1 o' G' H2 ρ' σ1 o' (upd G' T (.tup [x, y])) (upd H2 T (.tup [x, y])) := Stp.newF e'.wd hT
      have sb2 := sb.trans (Sub.upd gT (o := .tup [x, y]))
      refine it k d d' ρ' o' hd hd' ik _ σ1 _ (.ref T) (e'.newF hT) (.tup (.inl (.inl upd_same)) (.cons (Rp.sub sb2 rx) (.cons (Rp.sub sb2 ry) .nil))) _ fun ρ2 o2 G2 σ2 H4 r s2 e2 => ?_
      have s12 := (s'.trans sT).trans s2
      exact r G2 σ2 H4 e2 _ (fun _ _ _ _ _ n s e => ⟨_, _, _, n, s12.trans s, e, sb2.trans (s2.g.trans s.g)⟩) (fun _ _ _ _ _ _ _ n s e ok fr => qr _ _ _ _ _ _ _ n (s12.trans s) e ok (fr.back s12))
        (fun _ _ _ _ _ n s e => qn _ _ _ _ _ n (s12.trans s) e) (fun _ _ _ _ _ n s e => ⟨_, _, _, n, s12.trans s, e, sb2.trans (s2.g.trans s.g)⟩)
    · have ek : k = min ds.length es.length := by omega
      subst ek
      refine .inl ⟨⟨xs, ys, qa, qb', ?_⟩, qn _ _ _ _ _ (ie _ _ ik) s' e'⟩
      rw [hx.len, hy.len]
      omega
end
end DL

set_option Elab.async false
set_option linter.all false
set_option maxRecDepth 100000
namespace DL
open PySem PySem.Spec PyProof.Rows L2

/-! ### operators that look at their values -/
def rAddU (K : PySem.W.Frag) : R2 := fun x y H Q => rI0 (fun i j => .int (i + j)) x y H Q ∨ (fun x y H Q => (∃ i j, x = V.str i ∧ y = V.str j ∧ i.length + j.length ≤ sizeLine ∧ Q (V.str (i ++ j)) H) ∨ (rCat x y H Q ∨ rCatT K x y H Q)) x y H Q
theorem op_addU {X : Cx} : OpR X (binaryOp .Add) (rAddU X.K) := op_add.or (op_add_str.or (op_cat.or op_catT))
def rEqU (K : PySem.W.Frag) : R2 := fun x y H Q => rEq x y H Q ∨ rEqD K x y H Q
def rNeU (K : PySem.W.Frag) : R2 := fun x y H Q => rNe x y H Q ∨ rNeD K x y H Q
theorem op_eqU {X : Cx} (hu : X.A.units + 64 < cLine) : OpR X (compareOp .Eq) (rEqU X.K) := op_eq.or (op_eqD hu)
theorem op_neU {X : Cx} (hu : X.A.units + 64 < cLine) : OpR X (compareOp .NotEq) (rNeU X.K) := op_ne.or (op_neD hu)
def rLtU : R2 := fun x y H Q => rI0 (fun i j => .bl (decide (i < j))) x y H Q ∨ (∃ i j, x = V.str i ∧ y = V.str j ∧ Q (V.bl (decide (i.cps.toList < j.cps.toList))) H)
theorem op_ltU {X : Cx} : OpR X (compareOp .Lt) rLtU := op_lt.or op_lt_str
def rLeU : R2 := fun x y H Q => rI0 (fun i j => .bl (decide (i ≤ j))) x y H Q ∨ (∃ i j, x = V.str i ∧ y = V.str j ∧ Q (V.bl (!decide (j.cps.toList < i.cps.toList))) H)
theorem op_leU {X : Cx} : OpR X (compareOp .LtE) rLeU := op_le.or op_le_str
def rMulU : R2 := fun x y H Q => rI CMul (fun i j => .int (i * j)) x y H Q ∨ rRep x y H Q
theorem op_mulU {X : Cx} : OpR X (binaryOp .Mult) rMulU := op_mul.or op_rep
def rSlU (K : PySem.W.Frag) : V → Option Int → Option Int → Hp → VK → Prop := fun x lo hi H Q => rSlS x lo hi H Q ∨ (fun x lo hi H Q => rSlL K x lo hi H Q ∨ rSlT K x lo hi H Q) x lo hi H Q
theorem sl_U {X : Cx} : SlR X (rSlU X.K) := sl_str.or (sl_list.or sl_tup)
def rInU (K : PySem.W.Frag) : R2 := fun x y H Q => (∃ (c : Nat) (z : Str), x = V.str ⟨#[c]⟩ ∧ y = V.str z ∧ Q (V.bl (decide (c ∈ z.cps.toList))) H) ∨ (fun x y H Q => rIn K false x y H Q ∨ (∃ i j, x = V.str i ∧ y = V.str j ∧ Q (V.bl (!(Builtin.Str.occurrences j i 0 j.length 1).isEmpty)) H)) x y H Q
theorem op_inU {X : Cx} : OpR X (compareOp .In) (rInU X.K) := op_in_sign.or (op_in_seq.or op_in_str)
def rNotInU (K : PySem.W.Frag) : R2 := fun x y H Q => (∃ (c : Nat) (z : Str), x = V.str ⟨#[c]⟩ ∧ y = V.str z ∧ Q (V.bl (!decide (c ∈ z.cps.toList))) H) ∨ (fun x y H Q => rIn K true x y H Q ∨ (∃ i j, x = V.str i ∧ y = V.str j ∧ Q (V.bl (!(!(Builtin.Str.occurrences j i 0 j.length 1).isEmpty))) H)) x y H Q
theorem op_notInU {X : Cx} : OpR X (compareOp .NotIn) (rNotInU X.K) := op_notIn_sign.or (op_notIn_seq.or op_notin_str)
theorem pip_or {X : Cx} {op : Operator} {t t' : TIp} (h : PIp X op t) (h' : PIp X op t') : PIp X op (fun x y H Q => t x y H Q ∨ t' x y H Q) := by
  intro pins s σ H x y v u Q I r1 r2 q
  rcases q with q | q
  · exact h pins s σ H x y v u Q I r1 r2 q
  · exact h' pins s σ H x y v u Q I r1 r2 q
def ipAddU : TIp := fun x y H Q => ipI (fun i j => i + j) x y H Q ∨ (∃ i j, x = V.str i ∧ y = V.str j ∧ i.length + j.length ≤ sizeLine ∧ Q (V.str (i ++ j)) H)
theorem ip_addU {X : Cx} : PIp X .Add ipAddU := pip_or ip_add (fun pins s σ H x y v u Q I r1 r2 h => iop_add_str pins s σ H x y v u Q I r1 r2 h)

/-! ### the same with the written part under its name (within a comprehension) -/
section
variable {X : Cx} {K : PySem.W.Frag}
theorem op_addK (h : X.K = K) : OpR X (binaryOp .Add) (rAddU K) := h ▸ op_addU
theorem op_eqK (h : X.K = K) (hu : X.A.units + 64 < cLine) : OpR X (compareOp .Eq) (rEqU K) := h ▸ op_eqU hu
theorem op_neK (h : X.K = K) (hu : X.A.units + 64 < cLine) : OpR X (compareOp .NotEq) (rNeU K) := h ▸ op_neU hu
theorem sl_K (h : X.K = K) : SlR X (rSlU K) := h ▸ sl_U
theorem op_inK (h : X.K = K) : OpR X (compareOp .In) (rInU K) := h ▸ op_inU
theorem op_notInK (h : X.K = K) : OpR X (compareOp .NotIn) (rNotInU K) := h ▸ op_notInU
theorem ix_K (h : X.K = K) : IxR X (rIx K) := h ▸ ix_seq
theorem call_lenK (h : X.K = K) : CallR X (.builtin "len") (fun xs H Q => ∃ x n, xs = [x] ∧ LenV K x H n ∧ Q (.int (n : Nat)) H) := h ▸ call_len
theorem cr_sumK (h : X.K = K) (hc : X.calm = true) : CallR X (.builtin "sum") (rSum K) := h ▸ cr_sum hc
theorem call_isiK (h : X.K = K) : CallR X (.builtin "isinstance") (rIsi K) := h ▸ call_isi
theorem mt_joinK (h : X.K = K) : MtR X "str.join" (fun x xs H Q => ∃ a p, ∃ ys : List Str, x = .str a ∧ xs = [.ref p] ∧ (SqL K H p (ys.map V.str) ∨ SqT K H p (ys.map V.str)) ∧ (ys.map (·.length)).sum + ys.length * a.length ≤ 16777216 ∧ Q (.str (Txt.join a ys)) H) := h ▸ mt_join
theorem call_tupK (h : X.K = K) : CallR X (.type "tuple") (fun xs H Q => ∃ p ys, xs = [.ref p] ∧ ((SqL K H p ys ∧ ∀ l, H l = none → Q (.ref l) (upd H l (.tup ys))) ∨ (SqT K H p ys ∧ Q (.ref p) H))) := h ▸ call_tuple_of
theorem call_lstK (h : X.K = K) : CallR X (.type "list") (fun xs H Q => ∃ p ys, xs = [.ref p] ∧ (SqL K H p ys ∨ SqT K H p ys) ∧ ∀ l, H l = none → Q (.ref l) (upd H l (.lst ys))) := h ▸ call_list_of
theorem pi_listK {tg e : Expr} {te : TE} (h : X.K = K) (H : PI X tg e (iList X.K te)) : PI X tg e (iList K te) := h ▸ H
theorem pi_tupK {tg e : Expr} {te : TE} (h : X.K = K) (H : PI X tg e (iTup X.K te)) : PI X tg e (iTup K te) := h ▸ H
theorem pi_zipK {tg e : Expr} {ta : TA} (h : X.K = K) (H : PI X tg e (iZip X.K ta)) : PI X tg e (iZip K ta) := h ▸ H
theorem pi_enumK {tg e : Expr} {ta : TA} (h : X.K = K) (H : PI X tg e (iEnum X.K ta)) : PI X tg e (iEnum K ta) := h ▸ H
theorem pi_revK {tg e : Expr} {ta : TA} (h : X.K = K) (H : PI X tg e (iRev X.K ta)) : PI X tg e (iRev K ta) := h ▸ H
theorem pg_tupK {e : Expr} {t : TGs} {n : Nat} (h : X.K = K) (H : PG X e (gTup X.K n t)) : PG X e (gTup K n t) := h ▸ H
theorem pe_bmK {T : String} {e : Expr} {to : TE} {t : TA} {r : V → List V → Hp → VK → Prop} (h : X.K = K) (H : PE X e (tBM X.K T r to t)) : PE X e (tBM K T r to t) := h ▸ H
theorem pe_bm0K {T : String} {e : Expr} {to : TE} {r : V → List V → Hp → VK → Prop} (h : X.K = K) (H : PE X e (tBM0 X.K T r to)) : PE X e (tBM0 K T r to) := h ▸ H
end
section
variable {K : Kx} {ρ : List Sl} {o : Ob} {R : RD} {N B C : RE} {te ta tb tc : TE} {tt : TT} {i : Nat} {T : TA}
theorem xr_addI {m n : Int} (r : R (.d (.int (m + n))) ρ o) : XR K (rAddU K) (.d (.int m)) (.d (.int n)) ρ o R := xr_or1 (xr_i0 (g := fun i j => i + j) r)
theorem xr_addS {m n : Str} (c : m.length + n.length ≤ sizeLine) (r : R (.d (.str (m ++ n))) ρ o) : XR K (rAddU K) (.d (.str m)) (.d (.str n)) ρ o R := xr_or2 (xr_or1 (xr_catS c r))
theorem xr_addL {a b : DV} {m n : List PyData} (ha : IsL ρ a m) (hb : IsL ρ b n) (c : m.length + n.length ≤ sizeLine) (r : R (.new (.lst (m ++ n))) ρ o) : XR K (rAddU K) a b ρ o R := xr_or2 (xr_or2 (xr_or1 (xr_catL ha hb c r)))
theorem xr_sub {m n : Int} (r : R (.d (.int (m - n))) ρ o) : XR K (rI0 fun i j => .int (i - j)) (.d (.int m)) (.d (.int n)) ρ o R := xr_i0 (g := fun i j => i - j) r
theorem xr_mulI {m n : Int} (c : CMul m n) (r : R (.d (.int (m * n))) ρ o) : XR K rMulU (.d (.int m)) (.d (.int n)) ρ o R := xr_or1 (xr_iC (g := fun i j => i * j) c r)
theorem xr_fdiv {m n : Int} (c : CDivN m n) (r : R (.d (.int (m.fdiv n))) ρ o) : XR K (rI CDivN fun i j => .int (i.fdiv j)) (.d (.int m)) (.d (.int n)) ρ o R := xr_iC (g := fun i j => i.fdiv j) c r
theorem xr_fmod {m n : Int} (c : n ≠ 0) (r : R (.d (.int (m.fmod n))) ρ o) : XR K (rI (fun _ j => j ≠ 0) fun i j => .int (i.fmod j)) (.d (.int m)) (.d (.int n)) ρ o R := xr_iC (g := fun i j => i.fmod j) (C := fun _ j => j ≠ 0) c r
theorem xr_ltI {m n : Int} (r : R (.d (.bool (decide (m < n)))) ρ o) : XR K rLtU (.d (.int m)) (.d (.int n)) ρ o R := xr_or1 (xr_b0 (g := fun i j => decide (i < j)) r)
theorem xr_leI {m n : Int} (r : R (.d (.bool (decide (m ≤ n)))) ρ o) : XR K rLeU (.d (.int m)) (.d (.int n)) ρ o R := xr_or1 (xr_b0 (g := fun i j => decide (i ≤ j)) r)
theorem xr_gtI {m n : Int} (r : R (.d (.bool (decide (n < m)))) ρ o) : XR K (rI0 fun i j => .bl (decide (j < i))) (.d (.int m)) (.d (.int n)) ρ o R := xr_b0 (g := fun i j => decide (j < i)) r
theorem xr_geI {m n : Int} (r : R (.d (.bool (decide (n ≤ m)))) ρ o) : XR K (rI0 fun i j => .bl (decide (j ≤ i))) (.d (.int m)) (.d (.int n)) ρ o R := xr_b0 (g := fun i j => decide (j ≤ i)) r
theorem xr_leS {m n : Str} (r : R (.d (.bool (!decide (n.cps.toList < m.cps.toList)))) ρ o) : XR K rLeU (.d (.str m)) (.d (.str n)) ρ o R := xr_or2 fun G σ H x y e h1 h2 Q q =>
  ⟨m, n, vok_str h1, vok_str h2, xq_now q e r (.bl _)⟩
theorem scal_int {m n : Int} : scal (.int m) (.int n) = true := rfl
theorem scal_str {m n : Str} : scal (.str m) (.str n) = true := rfl
theorem xr_eqI {m n : Int} (r : R (.d (.bool (decide (m = n)))) ρ o) : XR K (rEqU K) (.d (.int m)) (.d (.int n)) ρ o R := xr_or1 fun G σ H x y e h1 h2 Q q => by
  cases vok_int h1
  cases vok_int h2
  refine ⟨rfl, ?_⟩
  rw [show decide ((V.int m) = V.int n) = decide (m = n) by
    by_cases h : m = n
    · subst h; simp
    · simp [h]]
  exact xq_now q e r (.bl _)
theorem xr_eqS {m n : Str} (r : R (.d (.bool (decide (m = n)))) ρ o) : XR K (rEqU K) (.d (.str m)) (.d (.str n)) ρ o R := xr_or1 fun G σ H x y e h1 h2 Q q => by
  cases vok_str h1
  cases vok_str h2
  refine ⟨rfl, ?_⟩
  rw [show decide ((V.str m) = V.str n) = decide (m = n) by
    by_cases h : m = n
    · subst h; simp
    · simp [h]]
  exact xq_now q e r (.bl _)
theorem xr_eqB {m n : Bool} (r : R (.d (.bool (decide (m = n)))) ρ o) : XR K (rEqU K) (.d (.bool m)) (.d (.bool n)) ρ o R := xr_or1 fun G σ H x y e h1 h2 Q q => by
  cases vok_bl h1
  cases vok_bl h2
  refine ⟨rfl, ?_⟩
  rw [show decide ((V.bl m) = V.bl n) = decide (m = n) by cases m <;> cases n <;> rfl]
  exact xq_now q e r (.bl _)
theorem xr_neI {m n : Int} (r : R (.d (.bool (!decide (m = n)))) ρ o) : XR K (rNeU K) (.d (.int m)) (.d (.int n)) ρ o R := xr_or1 fun G σ H x y e h1 h2 Q q => by
  cases vok_int h1
  cases vok_int h2
  refine ⟨rfl, ?_⟩
  rw [show decide ((V.int m) = V.int n) = decide (m = n) by
    by_cases h : m = n
    · subst h; simp
    · simp [h]]
  exact xq_now q e r (.bl _)
theorem xr_neS {m n : Str} (r : R (.d (.bool (!decide (m = n)))) ρ o) : XR K (rNeU K) (.d (.str m)) (.d (.str n)) ρ o R := xr_or1 fun G σ H x y e h1 h2 Q q => by
  cases vok_str h1
  cases vok_str h2
  refine ⟨rfl, ?_⟩
  rw [show decide ((V.str m) = V.str n) = decide (m = n) by
    by_cases h : m = n
    · subst h; simp
    · simp [h]]
  exact xq_now q e r (.bl _)
theorem VOk.dp {G : Hp} {σ : L2.St} {H : Hp} {x : V} {d : PyData} (e : En K o ρ G σ H) (h : VOk K o ρ G σ H x (.d d)) : Dp K H x d := Rp.dp (Rp.sub e.wd.sub h)
theorem xr_eqD {d e : PyData} (h1 : SeqAt.shaped d = true) (h2 : SeqAt.shaped e = true) (r : R (.d (.bool (PyData.eqv d e))) ρ o) : XR K (rEqU K) (.d d) (.d e) ρ o R := xr_or2 fun G σ H x y en k1 k2 Q q =>
  ⟨d, e, k1.dp en, k2.dp en, h1, h2, xq_now q en r (.bl _)⟩
/-- a list, read where it stands, as data -/
theorem IsL.dp {G : Hp} {σ : L2.St} {H : Hp} {x : V} {dv : DV} {ds : List PyData} (l : IsL ρ dv ds) (e : En K o ρ G σ H) (h : VOk K o ρ G σ H x dv) : Dp K H x (.list ds) := by
  obtain ⟨p, xs, rfl, hp, ok⟩ := l.at e h
  exact .lst (.inl (.inl hp)) (RpAll.dp (RpAll.sub e.wd.sub ok))
theorem xr_eqL {a b : DV} {d e : List PyData} (la : IsL ρ a d) (lb : IsL ρ b e) (h1 : SeqAt.shaped (.list d) = true) (h2 : SeqAt.shaped (.list e) = true) (r : R (.d (.bool (PyData.eqv (.list d) (.list e)))) ρ o) : XR K (rEqU K) a b ρ o R := xr_or2 fun G σ H x y en k1 k2 Q q =>
  ⟨_, _, la.dp en k1, lb.dp en k2, h1, h2, xq_now q en r (.bl _)⟩
theorem xr_neL {a b : DV} {d e : List PyData} (la : IsL ρ a d) (lb : IsL ρ b e) (h1 : SeqAt.shaped (.list d) = true) (h2 : SeqAt.shaped (.list e) = true) (r : R (.d (.bool (!PyData.eqv (.list d) (.list e)))) ρ o) : XR K (rNeU K) a b ρ o R := xr_or2 fun G σ H x y en k1 k2 Q q =>
  ⟨_, _, la.dp en k1, lb.dp en k2, h1, h2, xq_now q en r (.bl _)⟩
theorem xr_inC {c : Nat} {z : Str} (r : R (.d (.bool (decide (c ∈ z.cps.toList)))) ρ o) : XR K (rInU K) (.d (.str ⟨#[c]⟩)) (.d (.str z)) ρ o R := xr_or1 fun G σ H x y en k1 k2 Q q =>
  ⟨c, z, vok_str k1, vok_str k2, xq_now q en r (.bl _)⟩
theorem xr_notInC {c : Nat} {z : Str} (r : R (.d (.bool (!decide (c ∈ z.cps.toList)))) ρ o) : XR K (rNotInU K) (.d (.str ⟨#[c]⟩)) (.d (.str z)) ρ o R := xr_or1 fun G σ H x y en k1 k2 Q q =>
  ⟨c, z, vok_str k1, vok_str k2, xq_now q en r (.bl _)⟩
def isNoneD : PyData → Bool
  | .none => true
  | _ => false
theorem xr_isN {d : PyData} (r : R (.d (.bool (isNoneD d))) ρ o) : XR K (fun x y H Q => y = .non ∧ Q (.bl (decide (x = .non))) H) (.d d) (.d .none) ρ o R := fun G σ H x y en k1 k2 Q q => by
  cases vok_non k2
  refine ⟨rfl, ?_⟩
  have : decide (x = .non) = (isNoneD d) := by cases k1 <;> rfl
  rw [this]
  exact xq_now q en r (.bl _)
theorem xr_notN {d : PyData} (r : R (.d (.bool (!isNoneD d))) ρ o) : XR K (fun x y H Q => y = .non ∧ Q (.bl (!decide (x = .non))) H) (.d d) (.d .none) ρ o R := fun G σ H x y en k1 k2 Q q => by
  cases vok_non k2
  refine ⟨rfl, ?_⟩
  have : (!decide (x = .non)) = (!isNoneD d) := by cases k1 <;> rfl
  rw [this]
  exact xq_now q en r (.bl _)
theorem xsl_S {z : Str} {l u : Option Int} (hl : z.length ≤ sizeLine) (r : R (.d (.str (cutS z l u))) ρ o) : XSl K (rSlU K) (.d (.str z)) l u ρ o R := xsl_or1 (xsl_str hl r)
theorem xsl_L {a : DV} {ds : List PyData} {l u : Option Int} (hl : IsL ρ a ds) (r : R (.new (.lst (cutD ds l u))) ρ o) : XSl K (rSlU K) a l u ρ o R := xsl_or2 (xsl_or1 (xsl_list hl r))
theorem xe_neg (h : XE K te ρ o fun dv ρ1 o1 => ∃ n, dv = .d (.int n) ∧ R (.d (.int (-n))) ρ1 o1) : XE K (tUn (rU fun i => .int (-i)) te) ρ o R := fun G σ H e Q q =>
  h.seq e fun v dv ρ1 o1 G1 H1 ⟨n, hd, r⟩ s1 e1 ok fr => by subst hd; exact ⟨n, vok_int ok, q _ _ _ _ _ _ r s1 e1 (.int _) trivial⟩
theorem xs_augA {a : Int} (hi : ρ[i]? = some (.val (.int a))) (h : XE K te ρ o fun dv ρ' o' => ∃ b, dv = .d (.int b) ∧ Nat.blt i ρ'.length = true ∧ N (ρ'.set i (.val (.int (a + b)))) o') :
    XS K (tAug i te ipAddU) ρ o N R B C := fun G σ H e D qn qr qb qc => by
  obtain ⟨ov, h1, v, rfl, hv⟩ := e.sl i _ hi
  cases hv
  refine ⟨_, h1, h.seq e fun v dv ρ' o' G' H' ⟨b, hd, hl, n⟩ s e' ok fr => ?_⟩
  subst hd
  exact .inl ⟨a, b, rfl, vok_int ok, qn _ _ _ _ _ n (s.trans (e'.store (lt_of_blt hl) (s := .val (.int (a + b))) ⟨_, rfl, .int _⟩ (fun c z => nomatch z)).2) (e'.store (lt_of_blt hl) (s := .val (.int (a + b))) ⟨_, rfl, .int _⟩ (fun c z => nomatch z)).1⟩
theorem xe_chain {r r' : R2} (h : XE K ta ρ o fun a ρ1 o1 => XE K tb ρ1 o1 fun b ρ2 o2 => Kept ρ2 a ∧ XR K r a b ρ2 o2 fun c ρ3 o3 => ∃ k, c = .d (.bool k) ∧ (k = true → XE K tc ρ3 o3 fun d ρ4 o4 => Kept ρ4 b ∧ XR K r' b d ρ4 o4 R) ∧ (k = false → R (.d (.bool false)) ρ3 o3) ∧ Kept ρ3 b) :
    XE K (tChain r r' ta tb tc) ρ o R := fun G σ H e Q q =>
  h.seq e fun x a ρ1 o1 G1 H1 r1 s1 e1 ok1 fr1 => XE.seq r1 e1 fun y b ρ2 o2 G2 H2 ⟨kp, r2⟩ s2 e2 ok2 fr2 =>
    r2 G2 σ H2 x y e2 (ok1.step s2 kp) ok2 _ fun z c ρ3 o3 G3 H3 ⟨k, hc, rt, rf, kb⟩ s3 e3 ok3 fr3 => by
      subst hc
      have s13 := (s1.trans s2).trans s3
      refine ⟨k, vok_bl ok3, ?_⟩
      cases k with
      | true => exact iteT (XE.seq (rt rfl) e3 fun w d ρ4 o4 G4 H4 ⟨kp4, r4⟩ s4 e4 ok4 fr4 => r4 G4 σ H4 y w e4 ((ok2.step s3 kb).step s4 kp4) ok4 Q fun v dv ρ' o' G' H' r s e' ok fr => q v dv ρ' o' G' H' r ((s13.trans s4).trans s) e' ok (fr.back (s13.trans s4)))
      | false => exact iteF (q _ _ _ _ _ _ (rf rfl) s13 e3 (.bl false) trivial)

/-! ### more built-ins -/
theorem xc_int1 {n : Int} (r : R (.d (.int n)) ρ o) : XC K (fun xs H Q => (∃ i, xs = [.int i] ∧ Q (.int i) H) ∨ ∃ k, xs = [.bl k] ∧ Q (.int (if k then 1 else 0)) H) [.d (.int n)] ρ o R := fun G σ H vs e h0 Q q => by
  obtain ⟨v, rfl, h⟩ := va1 h0
  cases vok_int h
  exact .inl ⟨n, rfl, xq_now q e r (.int _)⟩
/-- the class of a datum -/
def tyN : PyData → String
  | .none => "NoneType"
  | .bool _ => "bool"
  | .int _ => "int"
  | .str _ => "str"
  | .list _ => "list"
  | .tuple _ => "tuple"
  | .dict _ => "dict"
theorem TyX.of {G : Hp} {x : V} {d : PyData} (h : Rp K G x d) {H : Hp} (s : Sub G H) : TyX K H x (.type (tyN d)) := by
  cases h with
  | non => exact .base .non
  | bl b => exact .base (.bl b)
  | int b => exact .base (.int b)
  | str b => exact .base (.str b)
  | lst h _ => exact .base (.lst (s _ _ h))
  | tup h _ =>
    rcases h with (h | ⟨ob, h⟩) | ⟨ob, its, n, h1, h2, _⟩
    · exact .base (.tup (s _ _ h))
    · exact .fTuple (s _ _ h)
    · exact .kTuple h1 h2
theorem xc_isi {d : PyData} {n : String} {b : Bool} (hb : kitB (tyN d) n = some b) (r : R (.d (.bool b)) ρ o) : XC K (rIsi K) [.d d, .raw (.ty n)] ρ o R := fun G σ H vs e h Q q => by
  obtain ⟨v, u, rfl, h1, h2⟩ := va2 h
  have h2 : u = .ty n := h2
  subst h2
  exact ⟨v, .ty n, _, _, b, rfl, .ty n, TyX.of h1 e.wd.sub, kit_ty hb, xq_now q e r (.bl _)⟩
theorem xm_join {a : Str} {dv : DV} {ys : List Str} (l : IsL ρ dv (ys.map .str)) (hl : (ys.map (·.length)).sum + ys.length * a.length ≤ 16777216) (r : R (.d (.str (Txt.join a ys))) ρ o) :
    XM K (fun x xs H Q => ∃ a p, ∃ ys : List Str, x = .str a ∧ xs = [.ref p] ∧ (SqL K H p (ys.map V.str) ∨ SqT K H p (ys.map V.str)) ∧ (ys.map (·.length)).sum + ys.length * a.length ≤ 16777216 ∧ Q (.str (Txt.join a ys)) H) (.d (.str a)) [dv] ρ o R := fun G σ H x vs e hx hv0 Q q => by
  obtain ⟨v, rfl, hv⟩ := va1 hv0
  cases vok_str hx
  obtain ⟨p, xs, rfl, hp, ok⟩ := l.at e hv
  refine ⟨a, p, ys, rfl, rfl, .inl ?_, hl, xq_now q e r (.str _)⟩
  rw [← ok.of_strs]
  exact .inl (.inl hp)
end
end DL

set_option Elab.async false
set_option linter.all false
set_option maxRecDepth 100000
namespace DL
open PySem PySem.Spec PyProof.Rows L2

/-! ### comprehensions -/
def setAll {α : Type} (l : List α) : List Nat → List α → List α
  | [], _ => l
  | _ :: _, [] => l
  | i :: is, x :: xs => setAll (l.set i x) is xs
theorem setAll_len {α : Type} : ∀ (is : List Nat) (xs : List α) (l : List α), (setAll l is xs).length = l.length
  | [], _, _ => by simp only [setAll]
  | _ :: _, [], _ => by simp only [setAll]
  | i :: is, x :: xs, l => by unfold setAll; rw [setAll_len is xs, List.length_set]
theorem setAll_out {α : Type} : ∀ (is : List Nat) (xs : List α) (l : List α) (j : Nat), j ∉ is → (setAll l is xs)[j]? = l[j]?
  | [], _, _, _, _ => by simp only [setAll]
  | _ :: _, [], _, _, _ => by simp only [setAll]
  | i :: is, x :: xs, l, j, h => by
    unfold setAll
    rw [setAll_out is xs _ j (fun z => h (List.mem_cons_of_mem _ z)), List.getElem?_set_ne (fun z => h (by rw [z]; exact List.mem_cons_self))]
theorem setAll_in {α β : Type} (P : α → β → Prop) : ∀ (is : List Nat) (xs : List α) (ys : List β) (l : List α) (m : List β) (j : Nat), j ∈ is → is.length = xs.length → is.length = ys.length → l.length = m.length → (∀ i ∈ is, i < l.length) → (∀ (k : Nat) x y, xs[k]? = some x → ys[k]? = some y → P x y) →
    ∃ x y, (setAll l is xs)[j]? = some x ∧ (setAll m is ys)[j]? = some y ∧ P x y
  | i :: is, x :: xs, y :: ys, l, m, j, hj, h1, h2, h3, h4, hp => by
    unfold setAll
    by_cases hm : j ∈ is
    · exact setAll_in P is xs ys _ _ j hm (by simpa using h1) (by simpa using h2) (by rw [List.length_set, List.length_set]; exact h3) (fun i hi => by rw [List.length_set]; exact h4 i (List.mem_cons_of_mem _ hi)) fun k a b ha hb => hp (k + 1) a b (by simpa using ha) (by simpa using hb)
    · rcases List.mem_cons.mp hj with rfl | h
      · have hl := h4 j List.mem_cons_self
        rw [setAll_out is xs _ j hm, setAll_out is ys _ j hm, List.getElem?_set_self hl, List.getElem?_set_self (by rw [← h3]; exact hl)]
        exact ⟨x, y, rfl, rfl, hp 0 x y rfl rfl⟩
      · exact absurd h hm
theorem wipe_in {σ : L2.St} : ∀ {vs : List Nat} {j : Nat}, j ∉ vs → (wipe σ vs)[j]? = σ[j]?
  | [], _, _ => rfl
  | v :: vs, j, h => by
    unfold wipe
    rw [List.getElem?_set_ne (fun z => h (by rw [z]; exact List.mem_cons_self)), wipe_in fun z => h (List.mem_cons_of_mem _ z)]
theorem wipe_none {σ : L2.St} : ∀ {vs : List Nat} {j : Nat}, j ∈ vs → j < σ.length → (wipe σ vs)[j]? = some none
  | v :: vs, j, h, hl => by
    unfold wipe
    by_cases e : v = j
    · subst e; rw [List.getElem?_set_self (by rw [wipe_length]; exact hl)]
    · rw [List.getElem?_set_ne e]
      rcases List.mem_cons.mp h with z | z
      · exact absurd z.symm e
      · exact wipe_none z hl
theorem wipe_eq {σ τ : L2.St} {vs : List Nat} (hl : σ.length = τ.length) (h : ∀ j, j ∉ vs → σ[j]? = τ[j]?) : wipe σ vs = wipe τ vs := by
  apply List.ext_getElem?
  intro j
  by_cases hj : j ∈ vs
  · by_cases hlt : j < σ.length
    · rw [wipe_none hj hlt, wipe_none hj (by rw [← hl]; exact hlt)]
    · rw [List.getElem?_eq_none (by rw [wipe_length]; omega), List.getElem?_eq_none (by rw [wipe_length]; omega)]
  · rw [wipe_in hj, wipe_in hj, h j hj]
def gNames : List Nat → TGs
  | [] => gNil
  | i :: is => gCons (gName i) (gNames is)
/-- a block's target: its names get the parts of what is walked -/
def BT (K : PySem.W.Frag) (g : TG) (is : List Nat) (d : PyData) (ds : List PyData) : Prop :=
  is.length = ds.length ∧ ∀ (G : Hp) (v : V), Rp K G v d → ∃ vs, RpAll K G vs ds ∧ ∀ (H : Hp), Sub G H → ∀ (σ : L2.St) (Q : L2.St → Hp → Prop), Q (setAll σ is (vs.map some)) H → g v σ H Q
theorem bt_name {K : PySem.W.Frag} {i : Nat} {d : PyData} : BT K (gName i) [i] d [d] := ⟨rfl, fun G v r => ⟨[v], .cons r .nil, fun H _ σ Q q => q⟩⟩
theorem gnames_run : ∀ (is : List Nat) (vs : List V) (σ : L2.St) (H : Hp) (Q : L2.St → Hp → Prop), is.length = vs.length → Q (setAll σ is (vs.map some)) H → gNames is vs σ H Q
  | [], [], _, _, _, _, q => ⟨rfl, q⟩
  | i :: is, v :: vs, σ, H, Q, h, q => ⟨v, vs, rfl, gnames_run is vs _ H Q (by simpa using h) q⟩
theorem bt_tup {K : PySem.W.Frag} {is : List Nat} {n : Nat} {ds : List PyData} (h : is.length = ds.length) (hn : ds.length = n := by rfl) : BT K (gTup K n (gNames is)) is (.tuple ds) ds := ⟨h, fun G v r => by
  cases r with
  | @tup a xs _ hs ok =>
  exact ⟨xs, ok, fun H s σ Q q => ⟨a, xs, rfl, SqT.sub s hs, by rw [ok.len]; exact hn, gnames_run is xs σ H Q (by rw [ok.len]; exact h) q⟩⟩⟩

section
variable {K : Kx} {ρ ρ1 : List Sl} {o o' : Ob} {R : RD} {te : TE} {tt : TT} {g : TG} {is : List Nat} {T : TA}
/-- the block's names in the environment -/
def blkE (ρ : List Sl) (is : List Nat) (ds : List PyData) : List Sl := setAll ρ is (ds.map .val)
/-- no name of the block is owned around it -/
def NoOw (ρ : List Sl) (is : List Nat) : Prop := ∀ j ∈ is, j < ρ.length ∧ ∀ c, ρ[j]? ≠ some (.own c)
theorem blk_own {ds : List PyData} {σ : L2.St} {vs : List V} {G : Hp} (no : NoOw ρ is) (h1 : is.length = ds.length) (ok : RpAll K G vs ds) (hl : σ.length = ρ.length) {j : Nat} {p : Addr} :
    OwnAt (blkE ρ is ds) (setAll (wipe σ is) is (vs.map some)) j p ↔ OwnAt ρ σ j p := by
  by_cases hj : j ∈ is
  · obtain ⟨x, y, e1, e2, d, rfl⟩ := setAll_in (fun (x : Sl) (y : Option V) => ∃ d, x = .val d) is (ds.map .val) (vs.map some) ρ (wipe σ is) j hj (by simpa using h1) (by rw [List.length_map, ok.len]; exact h1) (by rw [wipe_length, hl]) (fun i hi => (no i hi).1) (fun k x y hx _ => by
      rw [List.getElem?_map] at hx
      cases q : ds[k]? with
      | none => rw [q] at hx; cases hx
      | some d => rw [q] at hx; exact ⟨d, (Option.some.inj hx).symm⟩)
    constructor
    · rintro ⟨⟨c, hc⟩, _⟩
      rw [show blkE ρ is ds = setAll ρ is (ds.map .val) from rfl, e1] at hc
      cases hc
    · rintro ⟨⟨c, hc⟩, _⟩
      exact absurd hc ((no j hj).2 c)
  · unfold OwnAt blkE
    rw [setAll_out _ _ _ _ hj, setAll_out _ _ _ _ hj, wipe_in hj]
/-- into the block -/
theorem En.blk {ds : List PyData} {σ : L2.St} {vs : List V} {G H : Hp} (e : En K o ρ G σ H) (no : NoOw ρ is) (h1 : is.length = ds.length) (ok : RpAll K G vs ds) :
    En K o (blkE ρ is ds) G (setAll (wipe σ is) is (vs.map some)) H ∧ Stp ρ σ o G H (blkE ρ is ds) (setAll (wipe σ is) is (vs.map some)) o G H ∧ Stp (blkE ρ is ds) (setAll (wipe σ is) is (vs.map some)) o G H ρ σ o G H := by
  have ow : ∀ {j p}, OwnAt (blkE ρ is ds) (setAll (wipe σ is) is (vs.map some)) j p ↔ OwnAt ρ σ j p := fun {j p} => blk_own no h1 ok e.len
  have stp : Stp ρ σ o G H (blkE ρ is ds) (setAll (wipe σ is) is (vs.map some)) o G H := ⟨Sub.refl, fun _ _ h _ _ => h, fun _ h _ _ _ => h, fun _ h => .inl h, fun a ⟨j, h⟩ => .inl ⟨j, ow.mp h⟩⟩
  refine ⟨⟨⟨e.wd, by unfold blkE; rw [setAll_len, setAll_len, wipe_length]; exact e.len, fun j s h => ?_, fun j k p a b => e.dis j k p (ow.mp a) (ow.mp b), fun p ⟨j, h⟩ => e.onf p ⟨j, ow.mp h⟩⟩, e.wo.step stp⟩,
    stp, ⟨Sub.refl, fun _ _ h _ _ => h, fun _ h _ _ _ => h, fun _ h => .inl h, fun a ⟨j, h⟩ => .inl ⟨j, ow.mpr h⟩⟩⟩
  by_cases hj : j ∈ is
  · obtain ⟨x, y, e1, e2, d, v, rfl, rfl, r⟩ := setAll_in (fun (x : Sl) (y : Option V) => ∃ d v, x = .val d ∧ y = some v ∧ Rp K G v d) is (ds.map .val) (vs.map some) ρ (wipe σ is) j hj (by simpa using h1) (by rw [List.length_map, ok.len]; exact h1) (by rw [wipe_length, e.len]) (fun i hi => (no i hi).1) (fun k x y hx hy => by
      rw [List.getElem?_map] at hx hy
      cases q : ds[k]? with
      | none => rw [q] at hx; cases hx
      | some d =>
        rw [q] at hx
        obtain ⟨v, hv, rv⟩ := ok.get' q
        rw [hv] at hy
        exact ⟨d, v, (Option.some.inj hx).symm, (Option.some.inj hy).symm, rv⟩)
    rw [show blkE ρ is ds = setAll ρ is (ds.map .val) from rfl, e1] at h
    cases h
    exact ⟨_, e2, v, rfl, r⟩
  · unfold blkE at h
    rw [setAll_out _ _ _ _ hj] at h
    obtain ⟨ov, k1, k2⟩ := e.sl j s h
    exact ⟨ov, by rw [setAll_out _ _ _ _ hj, wipe_in hj]; exact k1, k2⟩
/-- out of the block -/
theorem En.unblk {ds : List PyData} {σ : L2.St} {vs : List V} {G H G' H' : Hp} (e : En K o ρ G σ H) (no : NoOw ρ is) (h1 : is.length = ds.length) (ok : RpAll K G vs ds) (s : Sub G G') (e' : En K o' (blkE ρ is ds) G' (setAll (wipe σ is) is (vs.map some)) H') : En K o' ρ G' σ H' := by
  have stp : Stp (blkE ρ is ds) (setAll (wipe σ is) is (vs.map some)) o' G' H' ρ σ o' G' H' := ⟨Sub.refl, fun _ _ h _ _ => h, fun _ h _ _ _ => h, fun _ h => .inl h, fun a ⟨j, h⟩ => .inl ⟨j, (blk_own no h1 ok e.len).mpr h⟩⟩
  have ow : ∀ {j p}, OwnAt (blkE ρ is ds) (setAll (wipe σ is) is (vs.map some)) j p ↔ OwnAt ρ σ j p := fun {j p} => blk_own no h1 ok e.len
  refine ⟨⟨e'.wd, e.len, fun j s' h => ?_, fun j k p a b => e'.dis j k p (ow.mpr a) (ow.mpr b), fun p ⟨j, h⟩ => e'.onf p ⟨j, ow.mpr h⟩⟩, e'.wo.step stp⟩
  by_cases hj : j ∈ is
  · obtain ⟨ov, k1, k2⟩ := e.sl j s' h
    refine ⟨ov, k1, ?_⟩
    cases s' with
    | own c => exact absurd h ((no j hj).2 c)
    | no => trivial
    | raw u => exact k2
    | val d => obtain ⟨v, e1, r⟩ := k2; exact ⟨v, e1, Rp.sub s r⟩
  · have q := e'.sl j s'
    unfold blkE at q
    rw [setAll_out _ _ _ _ hj, setAll_out _ _ _ _ hj, wipe_in hj] at q
    exact q h

/-- a thing that no name and no object holds changes -/
theorem En.mutX {σ : L2.St} {G H : Hp} {D : Addr} {y : HO} (e : En K o ρ G σ H) (gD : G D = none) (nf : ¬ o.fp D) (nw : ¬ Own ρ σ D) (wo : WOk K o ρ G σ (upd H D y)) : En K o ρ G σ (upd H D y) where
  wo := wo
  wd := ⟨fun a z hz => by rw [upd_ne (show a ≠ D from fun q => by rw [q, gD] at hz; cases hz)]; exact e.wd.sub _ _ hz, e.wd.nfp, fun a ha => by rw [upd_ne (show a ≠ D from fun q => nf (by rw [← q]; exact ha))]; exact e.wd.occ a ha,
    o.st _ _ _ _ e.wd.ok Sub.refl fun a ha => upd_ne (show a ≠ D from fun q => nf (by rw [← q]; exact ha))⟩
  len := e.len
  sl := fun i s h => by
    obtain ⟨ov, h1, h2⟩ := e.sl i s h
    refine ⟨ov, h1, h2.step Sub.refl fun q c hs hv => ?_⟩
    subst hs
    have ow : Own ρ σ q := ⟨i, ⟨c, h⟩, by rw [h1, hv]⟩
    exact ⟨(e.occ_own ow).1, upd_ne (show q ≠ D from fun z => nw (by rw [← z]; exact ow))⟩
  dis := e.dis
  onf := e.onf
/-- one item of a comprehension: what it adds -/
def LcTurn (K : Kx) (tt : TT) (te : TE) (ρ1 : List Sl) (is : List Nat) (ds : List PyData) (o' : Ob) (J : Option PyData → Ob → Prop) : Prop :=
  XT K tt (blkE ρ1 is ds) o' fun b ρ2 o2 => ρ2 = blkE ρ1 is ds ∧ (b = true → XEF K te (blkE ρ1 is ds) o2 fun dv ρ3 o3 => ρ3 = blkE ρ1 is ds ∧ ∃ d, dv = .d d ∧ J (some d) o3) ∧ (b = false → J none o2)
/-- the state of a comprehension's turn -/
def LcP (K : Kx) (I : List PyData → Ob → Prop) (ρ : List Sl) (σ : L2.St) (o : Ob) (G H : Hp) (ρ1 : List Sl) (G1 : Hp) (D : Addr) (H' : Hp) : Prop :=
  ∃ acc o' G' xs, I acc o' ∧ Stp ρ σ o G H ρ1 σ o' G' H' ∧ En K o' ρ1 G' σ H' ∧ H' D = some (.lst xs) ∧ G' D = none ∧ ¬ o'.fp D ∧ ¬ Own ρ1 σ D ∧ RpAll K G' xs acc ∧ acc.length < sizeLine ∧ Sub G1 G'
theorem lc_turn {I I' : List PyData → Ob → Prop} {σ : L2.St} {G H G1 G' H' : Hp} {D : Addr} {x : V} {d : PyData} {ds : List PyData} (bt : BT K g is d ds) (no : NoOw ρ1 is) (fr : H D = none ∨ o.fp D ∨ Own ρ σ D)
    {acc : List PyData} {xs : List V} (s : Stp ρ σ o G H ρ1 σ o' G' H') (e : En K o' ρ1 G' σ H') (hD : H' D = some (.lst xs)) (gD : G' D = none) (nf : ¬ o'.fp D) (nw : ¬ Own ρ1 σ D) (ok : RpAll K G' xs acc) (sb : Sub G1 G') (rx : Rp K G' x d) (len : acc.length < sizeLine) (wo0 : WOk K o ρ G σ H)
    (turn : LcTurn K tt te ρ1 is ds o' fun y o2 => match y with | some d => (acc ++ [d]).length < sizeLine ∧ I' (acc ++ [d]) o2 | none => I' acc o2) :
    g x (wipe σ is) H' fun σ2 H2 => wipe σ2 is = wipe σ is ∧ tt σ2 H2 fun b H3 =>
      if b = true then te σ2 H3 fun y H4 => ∃ acc, H4 D = some (.lst acc) ∧ acc.length < sizeLine ∧ LcP K I' ρ σ o G H ρ1 G1 D (upd H4 D (.lst (acc ++ [y]))) else LcP K I' ρ σ o G H ρ1 G1 D H3 := by
  obtain ⟨h1, hb⟩ := bt
  obtain ⟨vs, okv, run⟩ := hb G' x rx
  refine run H' e.wd.sub (wipe σ is) _ ⟨?_, ?_⟩
  · refine wipe_eq (by rw [setAll_len, wipe_length]) fun j hj => ?_
    rw [setAll_out _ _ _ _ hj, wipe_in hj]
  · obtain ⟨eb, sin, sout⟩ := e.blk no h1 okv
    have nwb : ¬ Own (blkE ρ1 is ds) (setAll (wipe σ is) is (vs.map some)) D := fun ⟨j, z⟩ => nw ⟨j, (blk_own no h1 okv e.len).mp z⟩
    refine turn G' _ H' eb _ fun b ρ2 o2 G2 H2 ⟨hρ, rt, rf⟩ s2 e2 => ?_
    subst hρ
    have keep : ∀ {o3 G3 H3}, Stp (blkE ρ1 is ds) (setAll (wipe σ is) is (vs.map some)) o' G' H' (blkE ρ1 is ds) (setAll (wipe σ is) is (vs.map some)) o3 G3 H3 → En K o3 (blkE ρ1 is ds) G3 (setAll (wipe σ is) is (vs.map some)) H3 →
        Stp ρ σ o G H ρ1 σ o3 G3 H3 ∧ En K o3 ρ1 G3 σ H3 ∧ H3 D = some (.lst xs) ∧ G3 D = none ∧ ¬ o3.fp D ∧ RpAll K G3 xs acc ∧ Sub G1 G3 := fun {o3 G3 H3} s3 e3 => by
      have sback : Stp (blkE ρ1 is ds) (setAll (wipe σ is) is (vs.map some)) o3 G3 H3 ρ1 σ o3 G3 H3 :=
        ⟨Sub.refl, fun _ _ h _ _ => h, fun _ h _ _ _ => h, fun _ h => .inl h, fun a ⟨j, h⟩ => .inl ⟨j, (blk_own no h1 okv e.len).mpr h⟩⟩
      refine ⟨((s.trans sin).trans s3).trans sback, e.unblk no h1 okv s3.g e3, s3.h D _ hD nf nwb, s3.n D gD ⟨_, hD⟩ nf nwb, fun z => ?_, RpAll.sub s3.g ok, sb.trans s3.g⟩
      rcases s3.f D z with q | q | q
      · exact nf q
      · rw [hD] at q; cases q
      · exact nwb q
    cases b with
    | false =>
      obtain ⟨k1, k2, k3, k4, k5, k6, k7⟩ := keep s2 e2
      exact iteF ⟨acc, o2, G2, xs, rf rfl, k1, k2, k3, k4, k5, nw, k6, len, k7⟩
    | true =>
      refine iteT ?_
      refine XE.seq (rt rfl) e2 fun y dv ρ3 o3 G3 H4 ⟨hρ, d', hd, hl, hi⟩ s3 e3 ok3 fr3 => ?_
      subst hρ
      subst hd
      obtain ⟨k1, k2, k3, k4, k5, k6, k7⟩ := keep (s2.trans s3) e3
      have stp : Stp ρ σ o G H ρ1 σ o3 G3 (upd H4 D (.lst (xs ++ [y]))) := by
        refine ⟨k1.g, fun a z hz q1 q2 => ?_, k1.n, k1.f, k1.w⟩
        have hne : a ≠ D := fun q => by
          subst q
          rcases fr with q | q | q
          · rw [q] at hz; cases hz
          · exact q1 q
          · exact q2 q
        rw [upd_ne hne]
        exact k1.h a z hz q1 q2
      exact ⟨xs, k3, by rw [k6.len]; exact len, acc ++ [d'], o3, G3, xs ++ [y], hi, stp, k2.mutX k4 k5 nw (wo0.step stp), upd_same, k4, k5, nw, k6.append (.cons ok3 .nil), hl, k7⟩
theorem lc_start {I : List PyData → Ob → Prop} {σ : L2.St} {G H G1 H1 : Hp} {D : Addr} (i0 : I [] o') (s : Stp ρ σ o G H ρ1 σ o' G1 H1) (e : En K o' ρ1 G1 σ H1) (hD : H1 D = none) : LcP K I ρ σ o G H ρ1 G1 D (upd H1 D (.lst [])) :=
  ⟨[], o', G1, [], i0, s.trans (Stp.newO hD), e.newO hD, upd_same, e.wd.gnone hD, nofp e hD, noown e hD, .nil, by show 0 < sizeLine; rw [sizeLine_eq]; decide, Sub.refl⟩
theorem lc_end {I : List PyData → Ob → Prop} {σ : L2.St} {G H G1 H1 : Hp} {D : Addr} {Q : VK} (fr : H D = none ∨ o.fp D ∨ Own ρ σ D) (q : XQ K ρ o G σ H R Q) (ie : ∀ acc o', acc.length < sizeLine → I acc o' → R (.new (.lst acc)) ρ1 o') (p : LcP K I ρ σ o G H ρ1 G1 D H1) : Q (.ref D) H1 := by
  obtain ⟨acc, o', G', xs, i, s, e, hD, gD, nf, nw, ok, hl, _⟩ := p
  exact q _ _ _ _ _ _ (ie acc o' hl i) s e ⟨D, _, rfl, gD, hD, ok, nf, nw⟩ fun p hp => by cases hp; exact fr
/-- [e for .. in range(n) if t] -/
theorem xe_lcR (h : XA K T ρ o fun dvs ρ1 o1 => ∃ n : Int, dvs = [.d (.int n)] ∧ -(2 ^ 62) ≤ n ∧ n < 2 ^ 62 ∧ NoOw ρ1 is ∧ ∃ I : Nat → List PyData → Ob → Prop, I 0 [] o1 ∧
      (∀ k acc o', k < n.toNat → acc.length < sizeLine → I k acc o' → ∃ ds, BT K g is (.int (0 + (k : Nat))) ds ∧ LcTurn K tt te ρ1 is ds o' fun y o2 => match y with | some d => (acc ++ [d]).length < sizeLine ∧ I (k + 1) (acc ++ [d]) o2 | none => I (k + 1) acc o2) ∧
      ∀ acc o', acc.length < sizeLine → I n.toNat acc o' → R (.new (.lst acc)) ρ1 o') : XE K (tLc (iRng1 T) g tt te is) ρ o R := fun G σ H e0 Q q =>
  h G σ H e0 _ fun vs dvs ρ1 o1 G1 H1 ⟨n, hd, b1, b2, no, I, i0, it, ie⟩ s1 e1 ok => by
    subst hd
    obtain ⟨v, rfl, hv⟩ := va1 ok
    cases vok_int hv
    refine ⟨n, rfl, b1, b2, fun D hD => ?_⟩
    have fr := s1.old (.inl hD)
    exact lc_range (fun k H' => LcP K (I k) ρ σ o G H ρ1 G1 D H') (lc_start i0 s1 e1 hD) (fun k H' hk p => by
      obtain ⟨acc, o', G', xs, i, s, e, hD', gD, nf, nw, ok, hl, sb⟩ := p
      obtain ⟨ds, bt, turn⟩ := it k acc o' hk hl i
      exact lc_turn (I := I k) (I' := I (k + 1)) bt no fr s e hD' gD nf nw ok sb (.int _) hl e0.wo turn) fun H' p => lc_end fr q ie p
/-- [e for .. in xs if t] -/
theorem xe_lcL {tl : TE} (h : XEF K tl ρ o fun dv ρ1 o1 => ∃ es, dv = .d (.list es) ∧ NoOw ρ1 is ∧ ∃ I : Nat → List PyData → Ob → Prop, I 0 [] o1 ∧
      (∀ k d acc o', es[k]? = some d → acc.length < sizeLine → I k acc o' → ∃ ds, BT K g is d ds ∧ LcTurn K tt te ρ1 is ds o' fun y o2 => match y with | some d => (acc ++ [d]).length < sizeLine ∧ I (k + 1) (acc ++ [d]) o2 | none => I (k + 1) acc o2) ∧
      ∀ acc o', acc.length < sizeLine → I es.length acc o' → R (.new (.lst acc)) ρ1 o') : XE K (tLc (iList K tl) g tt te is) ρ o R := fun G σ H e0 Q q =>
  h G σ H e0 _ fun v dv ρ1 o1 G1 H1 ⟨es, hd, no, I, i0, it, ie⟩ s1 e1 okl _ => by
    subst hd
    cases okl with
    | @lst a ys _ hg hx =>
    refine ⟨a, rfl, ⟨ys, .inl (.inl (e1.wd.sub _ _ hg))⟩, fun D hD => ?_⟩
    have fr := s1.old (.inl hD)
    refine lc_list (xs := ys) (fun k H' => LcP K (I k) ρ σ o G H ρ1 G1 D H') (lc_start i0 s1 e1 hD) (fun k H' _ p => ?_) (fun k x H' hk p => ?_) fun H' p => ?_
    · obtain ⟨acc, o', G', xs, i, s, e, hD', gD, nf, nw, ok, hl, sb⟩ := p
      exact .inl (.inl (e.wd.sub _ _ (sb _ _ hg)))
    · obtain ⟨acc, o', G', xs, i, s, e, hD', gD, nf, nw, ok, hl, sb⟩ := p
      obtain ⟨d, hd, rx⟩ := hx.get hk
      obtain ⟨ds, bt, turn⟩ := it k d acc o' hd hl i
      exact lc_turn (I := I k) (I' := I (k + 1)) bt no fr s e hD' gD nf nw ok sb (Rp.sub sb rx) hl e0.wo turn
    · rw [hx.len] at p
      exact lc_end fr q ie p
theorem xt_yes {R' : Bool → RE} (r : R' true ρ o) : XT K tYes ρ o R' := fun G σ H e Q q => q _ _ _ _ _ r Stp.refl e
end
end DL

set_option Elab.async false
set_option linter.all false
set_option maxRecDepth 100000
namespace DL
open PySem PySem.Spec PyProof.Rows L2

/-! ### dicts -/
abbrev DKv := List (Key × PyData)
abbrev KvR (K : PySem.W.Frag) (G : Hp) (kvs : List (Key × V)) (ps : DKv) : Prop := Paired (fun (p : Key × V) (q : Key × PyData) => p.1 = q.1 ∧ Rp K G p.2 q.2) kvs ps
def valD (ps : DKv) (k : Key) : Option PyData := (ps.find? fun kv => decide (kv.1 = k)).map (·.2)
def putD (ps : DKv) (k : Key) (v : PyData) : DKv :=
  if (ps.any fun kv => decide (kv.1 = k)) = true then ps.map (fun kv => if kv.1 = k then (kv.1, v) else kv) else ps ++ [(k, v)]
section
variable {K : PySem.W.Frag} {G G' : Hp}
theorem KvR.val {kvs : List (Key × V)} {ps : DKv} (h : KvR K G kvs ps) (k : Key) : (valV kvs k = none ∧ valD ps k = none) ∨ ∃ v d, valV kvs k = some v ∧ valD ps k = some d ∧ Rp K G v d := by
  induction h with
  | nil => exact .inl ⟨rfl, rfl⟩
  | @cons p q a b h t ih =>
    obtain ⟨h1, h2⟩ := h
    by_cases e : p.1 = k
    · exact .inr ⟨p.2, q.2, by simp [valV, List.find?_cons, e], by simp [valD, List.find?_cons, ← h1, e], h2⟩
    · have e2 : ¬ q.1 = k := by rw [← h1]; exact e
      have z1 : valV (p :: a) k = valV a k := by simp [valV, List.find?_cons, e]
      have z2 : valD (q :: b) k = valD b k := by simp [valD, List.find?_cons, e2]
      rw [z1, z2]
      exact ih
theorem KvR.any {kvs : List (Key × V)} {ps : DKv} (h : KvR K G kvs ps) (k : Key) : (kvs.any fun kv => decide (kv.1 = k)) = ps.any fun kv => decide (kv.1 = k) := by
  induction h with
  | nil => rfl
  | @cons p q a b h t ih => rw [List.any_cons, List.any_cons, ih, h.1]
theorem KvR.app {kvs kvs' : List (Key × V)} {ps ps' : DKv} (h : KvR K G kvs ps) (h' : KvR K G kvs' ps') : KvR K G (kvs ++ kvs') (ps ++ ps') := by
  induction h with
  | nil => exact h'
  | cons h t ih => exact .cons h ih
theorem KvR.map {kvs : List (Key × V)} {ps : DKv} (h : KvR K G kvs ps) (k : Key) {v : V} {d : PyData} (r : Rp K G v d) : KvR K G (kvs.map fun kv => if kv.1 = k then (kv.1, v) else kv) (ps.map fun kv => if kv.1 = k then (kv.1, d) else kv) := by
  induction h with
  | nil => exact .nil
  | @cons p q a b h t ih =>
    refine .cons ?_ ih
    obtain ⟨h1, h2⟩ := h
    dsimp only
    by_cases e : p.1 = k
    · rw [if_pos e, if_pos (show q.1 = k by rw [← h1]; exact e)]; exact ⟨h1, r⟩
    · rw [if_neg e, if_neg (show ¬ q.1 = k by rw [← h1]; exact e)]; exact ⟨h1, h2⟩
theorem KvR.put {kvs : List (Key × V)} {ps : DKv} (h : KvR K G kvs ps) (k : Key) {v : V} {d : PyData} (r : Rp K G v d) : KvR K G (putK kvs k v) (putD ps k d) := by
  unfold putK putD
  rw [h.any k]
  split
  · exact h.map k r
  · exact h.app (.cons ⟨rfl, r⟩ .nil)
theorem KvR.len {kvs : List (Key × V)} {ps : DKv} (h : KvR K G kvs ps) : kvs.length = ps.length := Paired.length h
def mergeD (ps more : DKv) : DKv := more.foldl (fun acc kv => putD acc kv.1 kv.2) ps
theorem KvR.merge {more : List (Key × V)} {pm : DKv} (h : KvR K G more pm) : ∀ {kvs : List (Key × V)} {ps : DKv}, KvR K G kvs ps → KvR K G (mergeK kvs more) (mergeD ps pm) := by
  induction h with
  | nil => intro _ _ h; exact h
  | @cons p q a b h t ih =>
    intro kvs ps h0
    have z := h0.put p.1 h.2
    obtain ⟨h1, _⟩ := h
    show KvR K G (mergeK (putK kvs p.1 p.2) a) (mergeD (putD ps q.1 q.2) b)
    rw [← h1]
    exact ih z
theorem dic_rep {y : HO} {ps : DKv} (h : COk K G y (.dic ps)) : ∃ kvs, y = .dK kvs ∧ KvR K G kvs ps := by
  cases y <;> first | exact ⟨_, rfl, h⟩ | exact h.elim
end

/-- a dict at τ that others may change -/
def dicOb (K : PySem.W.Frag) (τ : Addr) (ps : DKv) : Ob where
  fp := fun a => a = τ
  ok := fun G H => ∃ kvs, H τ = some (.dK kvs) ∧ KvR K G kvs ps
  st := fun G H G' H' ⟨kvs, h1, h2⟩ s h => ⟨kvs, by rw [h τ rfl]; exact h1, Paired.mapP h2 fun a b z => ⟨z.1, Rp.sub s z.2⟩⟩
section
variable {K : Kx} {ρ : List Sl} {o : Ob} {R : RD} {N B C : RE} {te ta tb tc : TE} {tt : TT} {i : Nat} {T : TA} {ts : TS}
def kD : Key → PyData
  | .inl n => .int n
  | .inr s => .str s
theorem vok_key {K : PySem.W.Frag} {G σ H x} {k : Key} (h : VOk K o ρ G σ H x (.d (kD k))) : x = kV k := by cases k <;> cases h <;> rfl
/-- d[k] of a shared dict -/
theorem xe_oget {td : TE} {τ : Addr} {ps : DKv} (h : XE K td ρ o fun dv ρ1 o1 => dv = .raw (.ref τ) ∧ XE K ta ρ1 o1 fun b ρ2 o2 => ∃ (k : Key) (d : PyData), b = .d (kD k) ∧ o2 = dicOb K τ ps ∧ valD ps k = some d ∧ R (.d d) ρ2 o2) : XE K (tDGet td ta) ρ o R := fun G σ H e Q q =>
  h.seq e fun x a ρ1 o1 G1 H1 ⟨hd, r1⟩ s1 e1 ok1 fr1 => by
    subst hd
    refine r1.seq e1 fun y b ρ2 o2 G2 H2 ⟨k, d, hb, ho, hv, r⟩ s2 e2 ok2 fr2 => ?_
    subst hb ho
    obtain ⟨kvs, h1, h2⟩ := e2.wd.ok
    rcases h2.val k with ⟨_, z⟩ | ⟨v, d', z1, z2, rv⟩
    · rw [z] at hv; cases hv
    · rw [z2] at hv
      cases hv
      refine ⟨τ, v, ok1, ?_, q _ _ _ _ _ _ r (s1.trans s2) e2 rv trivial⟩
      rw [← z1, vok_key ok2]
      exact DGet.k h1
/-- d[k] = v of a shared dict -/
theorem xs_oput {td : TE} {τ : Addr} {ps : DKv} (h : XE K tc ρ o (HandR fun v ρ0 o0 => XE K td ρ0 o0 fun dv ρ1 o1 => dv = .raw (.ref τ) ∧ XE K ta ρ1 o1 fun b ρ2 o2 => ∃ (k : Key) (d : PyData), b = .d (kD k) ∧ v = .d d ∧ o2 = dicOb K τ ps ∧ ps.length < sizeLine ∧ N ρ2 (dicOb K τ (putD ps k d)))) :
    XS K (sDPut td ta tc) ρ o N R B C := fun G σ H e D qn qr qb qc =>
  h.seq e fun w v ρ0 o0 G0 H0 r0 s0 e0 ok0 fr0 => by
    have r0 : ∃ x, v = x ∧ Kept [] v ∧ XE K td ρ0 o0 fun dv ρ1 o1 => dv = .raw (.ref τ) ∧ XE K ta ρ1 o1 fun b ρ2 o2 => ∃ (k : Key) (d : PyData), b = .d (kD k) ∧ v = .d d ∧ o2 = dicOb K τ ps ∧ ps.length < sizeLine ∧ N ρ2 (dicOb K τ (putD ps k d)) := by
      cases v with
      | d x => exact ⟨_, rfl, trivial, r0⟩
      | raw x => exact ⟨_, rfl, trivial, r0⟩
      | sl _ _ => exact False.elim r0
      | new _ => exact False.elim r0
    obtain ⟨_, _, _, r0⟩ := r0
    refine r0.seq e0 fun x a ρ1 o1 G1 H1 ⟨hd, r1⟩ s1 e1 ok1 fr1 => ?_
    subst hd
    refine r1.seq e1 fun y b ρ2 o2 G2 H2 ⟨k, d, hb, hv, ho, hl, n⟩ s2 e2 ok2 fr2 => ?_
    subst hb hv ho
    have okw := ok0.step (s1.trans s2) trivial
    obtain ⟨kvs, h1, h2⟩ := e2.wd.ok
    have s12 := (s0.trans s1).trans s2
    have ne : ∀ a, Own ρ2 σ a → a ≠ τ := fun a ha z => e2.onf a ha z
    have stp : Stp ρ σ o G H ρ2 σ (dicOb K τ (putD ps k d)) G2 (upd H2 τ (.dK (putK kvs k w))) := s12.trans ⟨Sub.refl, fun a z hz h3 _ => by rw [upd_ne h3]; exact hz, fun _ h _ _ _ => h, fun _ h => .inl h, fun _ h => .inl h⟩
    refine ⟨τ, _, ok1, ?_, qn ρ2 (dicOb K τ (putD ps k d)) G2 σ (upd H2 τ (.dK (putK kvs k w))) n stp ?_⟩
    · rw [vok_key ok2]
      exact DPut.k h1 (by rw [h2.len]; exact hl)
    · refine ⟨⟨⟨fun a z hz => ?_, e2.wd.nfp, fun a ha => ?_, ⟨_, upd_same, h2.put k okw⟩⟩, e2.len, fun j s hs => ?_, e2.dis, e2.onf⟩, e.wo.step stp⟩
      · rw [upd_ne (show a ≠ τ from fun q => by rw [q, e2.wd.nfp τ rfl] at hz; cases hz)]; exact e2.wd.sub _ _ hz
      · have : a = τ := ha
        subst this
        exact ⟨_, upd_same⟩
      · obtain ⟨ov, k1, k2⟩ := e2.sl j s hs
        refine ⟨ov, k1, k2.step Sub.refl fun q c hsc hv => ?_⟩
        subst hsc
        have ow : Own ρ2 σ q := ⟨j, ⟨c, hs⟩, by rw [k1, hv]⟩
        exact ⟨(e2.occ_own ow).1, upd_ne (ne q ow)⟩
/-- pairs of a display -/
inductive PPairs (K : Kx) : List (TE × TE) → List Sl → Ob → (DKv → RE) → Prop
  | nil {ρ : List Sl} {o : Ob} {J : DKv → RE} (r : J [] ρ o) : PPairs K [] ρ o J
  | cons {tk tv : TE} {r : List (TE × TE)} {ρ : List Sl} {o : Ob} {J : DKv → RE} (M : Key → PyData → RE) (h : XE K tk ρ o fun a ρ1 o1 => ∃ k : Key, a = .d (kD k) ∧ XEF K tv ρ1 o1 fun b ρ2 o2 => ∃ d, b = .d d ∧ M k d ρ2 o2)
      (t : ∀ k d ρ2 o2, M k d ρ2 o2 → PPairs K r ρ2 o2 fun ps => J ((k, d) :: ps)) : PPairs K ((tk, tv) :: r) ρ o J
theorem PPairs.run {trs : List (TE × TE)} {J : DKv → RE} (h : PPairs K trs ρ o J) : ∀ G σ H, En K o ρ G σ H → ∀ Q : List (V × V) → Hp → Prop,
    (∀ vs ps ρ' o' G' H', J ps ρ' o' → Stp ρ σ o G H ρ' σ o' G' H' → En K o' ρ' G' σ H' → KvR K G' vs ps → Q (vs.map fun kv => (kV kv.1, kv.2)) H') → tPairs trs σ H Q := by
  induction h with
  | nil r => intro G σ H e Q q; exact q [] _ _ _ _ _ r Stp.refl e .nil
  | cons M h t ih =>
    intro G σ H e Q q
    refine h.seq e fun x a ρ1 o1 G1 H1 ⟨k, hk, r1⟩ s1 e1 ok1 fr1 => ?_
    subst hk
    refine XE.seq r1 e1 fun y b ρ2 o2 G2 H2 ⟨d, hd, m⟩ s2 e2 ok2 fr2 => ?_
    subst hd
    refine ih k d ρ2 o2 m G2 σ H2 e2 _ fun vs ps ρ3 o3 G3 H3 r3 s3 e3 ok3 => ?_
    rw [vok_key ok1]
    exact q ((k, y) :: vs) _ _ _ _ _ r3 ((s1.trans s2).trans s3) e3 (.cons ⟨rfl, Rp.sub s3.g ok2⟩ ok3)
/-- a displayed dict: fresh -/
theorem xe_disp {trs : List (TE × TE)} (h : PPairs K trs ρ o fun ps ρ' o' => ps.length ≤ 15 ∧ R (.new (.dic (mergeD [] ps))) ρ' o') : XE K (tDisp trs) ρ o R := fun G σ H e Q q p hp => by
  refine h.run G σ (upd H p (.dK [])) (e.newO hp) _ fun vs ps ρ' o' G' H' ⟨hl, r⟩ s e' ok => ?_
  have nf := nofp e hp
  have no := noown e hp
  have hpp : H' p = some (.dK []) := s.h p _ upd_same nf no
  have gp : G' p = none := s.n p (e.wd.gnone hp) ⟨_, upd_same⟩ nf no
  have fr : H p = none ∨ o.fp p ∨ Own ρ σ p := .inl hp
  have nf' : ¬ o'.fp p := fun z => by
    rcases s.f p z with w | w | w
    · exact nf w
    · rw [upd_same] at w; cases w
    · exact no w
  have no' : ¬ Own ρ' σ p := fun z => by
    rcases s.w p z with w | w | w
    · exact no w
    · rw [upd_same] at w; cases w
    · exact nf w
  refine ⟨hpp, vs, rfl, by rw [ok.len]; exact hl, ?_⟩
  have s1 : Stp ρ σ o G H ρ' σ o' G' H' := (Stp.newO hp).trans s
  have s2 : Stp ρ σ o G H ρ' σ o' G' (upd H' p (.dK (mergeK [] vs))) :=
    ⟨s1.g, fun a z hz h1 h2 => by rw [upd_ne (ne_of_none hz hp)]; exact s1.h a z hz h1 h2, s1.n, s1.f, s1.w⟩
  refine q _ _ _ _ _ _ r s2 (e'.mutX gp nf' no' (e.wo.step s2)) ⟨p, _, rfl, gp, upd_same, ?_, nf', no'⟩ fun p' hp' => by cases hp'; exact fr
  exact KvR.merge ok (kvs := []) (ps := []) .nil

/-! ### changing what is known of the objects -/
theorem XS.enter {ts : TS} (h : ∀ G σ H, En K o ρ G σ H → ∃ o', EnB K o' ρ G σ H ∧ (∀ a, o'.fp a → o.fp a ∨ H a = none ∨ Own ρ σ a) ∧ (∀ a, o'.fp a → o.fp a) ∧ XS K ts ρ o' N R B C) : XS K ts ρ o N R B C := fun G σ H e D qn qr qb qc => by
  obtain ⟨o', e', hf, hf2, x⟩ := h G σ H e
  have s0 : Stp ρ σ o G H ρ σ o' G H := ⟨Sub.refl, fun _ _ h _ _ => h, fun _ h _ _ _ => h, hf, fun _ h => .inl h⟩
  exact x G σ H ⟨e', e.wo.step s0⟩ D (fun _ _ _ _ _ n s e => qn _ _ _ _ _ n (s0.trans s) e) (fun _ _ _ _ _ _ _ n s e ok fr => qr _ _ _ _ _ _ _ n (s0.trans s) e ok (fr.back s0)) (fun _ _ _ _ _ n s e => qb _ _ _ _ _ n (s0.trans s) e) (fun _ _ _ _ _ n s e => qc _ _ _ _ _ n (s0.trans s) e)
/-- objects that are not needed any more -/
theorem xs_forget {ts : TS} (h : XS K ts ρ Ob.emp N R B C) : XS K ts ρ o N R B C := XS.enter fun G σ H e =>
  ⟨Ob.emp, ⟨⟨e.wd.sub, fun _ z => z.elim, fun _ z => z.elim, trivial⟩, e.len, e.sl, e.dis, fun _ _ z => z⟩, fun _ z => z.elim, fun _ z => z.elim, h⟩
/-- more is known than is needed -/
structure Ob.le (o o' : Ob) : Prop where
  fp : ∀ a, o'.fp a ↔ o.fp a
  ok : ∀ G H, o.ok G H → o'.ok G H
theorem EnB.le {o o' : Ob} {G σ H} (e : EnB K o ρ G σ H) (l : Ob.le o o') : EnB K o' ρ G σ H :=
  ⟨⟨e.wd.sub, fun a h => e.wd.nfp a ((l.fp a).mp h), fun a h => e.wd.occ a ((l.fp a).mp h), l.ok _ _ e.wd.ok⟩, e.len, e.sl, e.dis, fun a h z => e.onf a h ((l.fp a).mp z)⟩
theorem Stp.le {ρ ρ' : List Sl} {σ σ' : L2.St} {o o1 o2 : Ob} {G H G' H' : Hp} (s : Stp ρ σ o G H ρ' σ' o1 G' H') (l : Ob.le o1 o2) : Stp ρ σ o G H ρ' σ' o2 G' H' := ⟨s.g, s.h, s.n, fun a h => s.f a ((l.fp a).mp h), s.w⟩
theorem En.le {o o' : Ob} {G σ H} (e : En K o ρ G σ H) (l : Ob.le o o') : En K o' ρ G σ H := ⟨e.toEnB.le l, e.wo.step (Stp.refl.le l)⟩
theorem VOk.le {ρ : List Sl} {σ : L2.St} {o1 o2 : Ob} {G H : Hp} {v : V} {dv : DV} (h : VOk K o1 ρ G σ H v dv) (l : Ob.le o1 o2) : VOk K o2 ρ G σ H v dv := by
  cases dv with
  | new c => obtain ⟨p, y, a, b, c, d, e, f⟩ := h; exact ⟨p, y, a, b, c, d, fun z => e ((l.fp p).mp z), f⟩
  | d _ => exact h
  | raw _ => exact h
  | sl _ _ => exact h
theorem xs_le {ts : TS} (h : XS K ts ρ o (fun ρ' o' => ∃ o2, Ob.le o' o2 ∧ N ρ' o2) (fun dv ρ' o' => ∃ o2, Ob.le o' o2 ∧ R dv ρ' o2) (fun ρ' o' => ∃ o2, Ob.le o' o2 ∧ B ρ' o2) (fun ρ' o' => ∃ o2, Ob.le o' o2 ∧ C ρ' o2)) : XS K ts ρ o N R B C := fun G σ H e D qn qr qb qc =>
  h G σ H e D (fun _ _ _ _ _ ⟨o2, l, n⟩ s e => qn _ _ _ _ _ n (s.le l) (e.le l)) (fun _ _ _ _ _ _ _ ⟨o2, l, n⟩ s e ok fr => qr _ _ _ _ _ _ _ n (s.le l) (e.le l) (ok.le l) fr) (fun _ _ _ _ _ ⟨o2, l, n⟩ s e => qb _ _ _ _ _ n (s.le l) (e.le l)) (fun _ _ _ _ _ ⟨o2, l, n⟩ s e => qc _ _ _ _ _ n (s.le l) (e.le l))
/-- an owned dict is given to others -/
theorem xs_share {ps : DKv} (hi : ρ[i]? = some (.own (.dic ps))) (h : ∀ τ, XS K ts (ρ.set i (.raw (.ref τ))) (dicOb K τ ps) N R B C) : XS K ts ρ Ob.emp N R B C := fun G σ H e D qn qr qb qc => by
  obtain ⟨p, y, h1, h2, h3, ok, nf⟩ := e.own_at hi
  obtain ⟨kvs, rfl, kv⟩ := dic_rep ok
  have hl : i < ρ.length := (List.getElem?_eq_some_iff.mp hi).1
  have own : Own ρ σ p := ⟨i, ⟨_, hi⟩, h1⟩
  have back : ∀ j q, OwnAt (ρ.set i (.raw (.ref p))) σ j q → OwnAt ρ σ j q ∧ j ≠ i := fun j q ⟨⟨c, hc⟩, hs⟩ => by
    by_cases hj : j = i
    · subst hj; rw [List.getElem?_set_self hl] at hc; cases hc
    · rw [List.getElem?_set_ne (Ne.symm hj)] at hc; exact ⟨⟨⟨c, hc⟩, hs⟩, hj⟩
  have s0 : Stp ρ σ Ob.emp G H (ρ.set i (.raw (.ref p))) σ (dicOb K p ps) G H := ⟨Sub.refl, fun _ _ h _ _ => h, fun _ h _ _ _ => h, fun a ha => .inr (.inr (by have : a = p := ha; rw [this]; exact own)), fun a ⟨j, hq⟩ => .inl ⟨j, (back j a hq).1⟩⟩
  have e2 : En K (dicOb K p ps) (ρ.set i (.raw (.ref p))) G σ H := by
    refine ⟨⟨⟨e.wd.sub, fun a ha => ?_, fun a ha => ?_, ⟨kvs, h3, kv⟩⟩, by simpa using e.len, fun j s' hj => ?_, fun j k q a b => e.dis j k q (back j q a).1 (back k q b).1, fun q ⟨j, hq⟩ z => ?_⟩, e.wo.step s0⟩
    · have : a = p := ha
      rw [this]; exact h2
    · have : a = p := ha
      rw [this]; exact ⟨_, h3⟩
    · by_cases hji : j = i
      · subst hji
        rw [List.getElem?_set_self hl] at hj
        cases hj
        exact ⟨_, h1, rfl⟩
      · rw [List.getElem?_set_ne (Ne.symm hji)] at hj
        exact e.sl j s' hj
    · have : q = p := z
      subst this
      exact (back j q hq).2 (e.dis j i q (back j q hq).1 ⟨⟨_, hi⟩, h1⟩)
  exact h p G σ H e2 D (fun _ _ _ _ _ n s e => qn _ _ _ _ _ n (s0.trans s) e) (fun _ _ _ _ _ _ _ n s e ok fr => qr _ _ _ _ _ _ _ n (s0.trans s) e ok (fr.back s0)) (fun _ _ _ _ _ n s e => qb _ _ _ _ _ n (s0.trans s) e) (fun _ _ _ _ _ n s e => qc _ _ _ _ _ n (s0.trans s) e)
/-! ### small steps for a walk -/
theorem kept_d {x : PyData} : Kept ρ (.d x) := trivial
theorem kept_r {v : V} : Kept ρ (.raw v) := trivial
theorem kept_n {c : Cont} : Kept ρ (.new c) := trivial
theorem asr_d {x : PyData} (n : N (ρ.set i (.val x)) o) : AsR i N (.d x) ρ o := n
theorem asr_r {v : V} (n : N (ρ.set i (.raw v)) o) : AsR i N (.raw v) ρ o := n
theorem asr_n {c : Cont} (n : N (ρ.set i (.own c)) o) : AsR i N (.new c) ρ o := n
theorem hr_d {R' : DV → RE} {x : PyData} (n : R' (.d x) ρ o) : HandR R' (.d x) ρ o := n
theorem hr_r {R' : DV → RE} {v : V} (n : R' (.raw v) ρ o) : HandR R' (.raw v) ρ o := n
theorem fz_d {x : PyData} (n : R (.d x) ρ o) : FzR R (.d x) ρ o := n
theorem fz_r {v : V} (n : R (.raw v) ρ o) : FzR R (.raw v) ρ o := n
theorem fz_n {ds : List PyData} (n : R (.d (.list ds)) ρ o) : FzR R (.new (.lst ds)) ρ o := n
theorem out_d {R' : DV → Ob → Prop} {x : PyData} (n : R' (.d x) o) : OutR R' (.d x) ρ o := n
theorem out_r {R' : DV → Ob → Prop} {v : V} (n : R' (.raw v) o) : OutR R' (.raw v) ρ o := n
theorem out_n {R' : DV → Ob → Prop} {c : Cont} (n : R' (.new c) o) : OutR R' (.new c) ρ o := n
theorem out_s {R' : DV → Ob → Prop} {c : Cont} (n : R' (.new c) o) : OutR R' (.sl i c) ρ o := n
/-- a sequence, cut by what holds between -/
theorem XS.mono {ts : TS} {N' B' C' : RE} {R' : RD} (h : XS K ts ρ o N R B C) (hn : ∀ ρ o, N ρ o → N' ρ o) (hr : ∀ d ρ o, R d ρ o → R' d ρ o) (hb : ∀ ρ o, B ρ o → B' ρ o) (hc : ∀ ρ o, C ρ o → C' ρ o) : XS K ts ρ o N' R' B' C' := fun G σ H e D qn qr qb qc =>
  h G σ H e D (fun _ _ _ _ _ n => qn _ _ _ _ _ (hn _ _ n)) (fun _ _ _ _ _ _ _ n => qr _ _ _ _ _ _ _ (hr _ _ _ n)) (fun _ _ _ _ _ n => qb _ _ _ _ _ (hb _ _ n)) (fun _ _ _ _ _ n => qc _ _ _ _ _ (hc _ _ n))
theorem xs_cut {t u : TS} (M : RE) (h : XS K t ρ o M R B C) (k : ∀ ρ1 o1, M ρ1 o1 → XS K u ρ1 o1 N R B C) : XS K (tSeq t u) ρ o N R B C :=
  xs_seq (XS.mono h k (fun _ _ _ h => h) (fun _ _ h => h) fun _ _ h => h)
/-- the rest under a name: the goals stay small -/
theorem xs_seqH {t u : TS} (h : ∀ rest : RE, (∀ ρ o, XS K u ρ o N R B C → rest ρ o) → XS K t ρ o rest R B C) : XS K (tSeq t u) ρ o N R B C := xs_seq (h _ fun _ _ h => h)
theorem xs_ifH {t u : TS} (h : ∀ Y Z : RE, (∀ ρ o, XS K t ρ o N R B C → Y ρ o) → (∀ ρ o, XS K u ρ o N R B C → Z ρ o) → XT K tt ρ o fun b ρ1 o1 => (b = true → Y ρ1 o1) ∧ (b = false → Z ρ1 o1)) : XS K (tIfS tt t u) ρ o N R B C :=
  xs_if (h _ _ (fun _ _ h => h) fun _ _ h => h)
end
end DL

set_option Elab.async false
set_option linter.all false
set_option maxRecDepth 100000
namespace DL
open PySem PySem.Spec PyProof.Rows L2
theorem ki_int_bool {n : Int} : kitB (tyN (.int n)) "bool" = some false := by show kitB "int" "bool" = _; decide +kernel
theorem ki_int_int {n : Int} : kitB (tyN (.int n)) "int" = some true := by show kitB "int" "int" = _; decide +kernel
theorem ki_int_str {n : Int} : kitB (tyN (.int n)) "str" = some false := by show kitB "int" "str" = _; decide +kernel
theorem ki_int_tuple {n : Int} : kitB (tyN (.int n)) "tuple" = some false := by show kitB "int" "tuple" = _; decide +kernel
theorem ki_int_list {n : Int} : kitB (tyN (.int n)) "list" = some false := by show kitB "int" "list" = _; decide +kernel
theorem ki_int_dict {n : Int} : kitB (tyN (.int n)) "dict" = some false := by show kitB "int" "dict" = _; decide +kernel
theorem ki_str_bool {n : Str} : kitB (tyN (.str n)) "bool" = some false := by show kitB "str" "bool" = _; decide +kernel
theorem ki_str_int {n : Str} : kitB (tyN (.str n)) "int" = some false := by show kitB "str" "int" = _; decide +kernel
theorem ki_str_str {n : Str} : kitB (tyN (.str n)) "str" = some true := by show kitB "str" "str" = _; decide +kernel
theorem ki_str_tuple {n : Str} : kitB (tyN (.str n)) "tuple" = some false := by show kitB "str" "tuple" = _; decide +kernel
theorem ki_str_list {n : Str} : kitB (tyN (.str n)) "list" = some false := by show kitB "str" "list" = _; decide +kernel
theorem ki_str_dict {n : Str} : kitB (tyN (.str n)) "dict" = some false := by show kitB "str" "dict" = _; decide +kernel
theorem ki_bool_bool {n : Bool} : kitB (tyN (.bool n)) "bool" = some true := by show kitB "bool" "bool" = _; decide +kernel
theorem ki_bool_int {n : Bool} : kitB (tyN (.bool n)) "int" = some true := by show kitB "bool" "int" = _; decide +kernel
theorem ki_bool_str {n : Bool} : kitB (tyN (.bool n)) "str" = some false := by show kitB "bool" "str" = _; decide +kernel
theorem ki_bool_tuple {n : Bool} : kitB (tyN (.bool n)) "tuple" = some false := by show kitB "bool" "tuple" = _; decide +kernel
theorem ki_bool_list {n : Bool} : kitB (tyN (.bool n)) "list" = some false := by show kitB "bool" "list" = _; decide +kernel
theorem ki_bool_dict {n : Bool} : kitB (tyN (.bool n)) "dict" = some false := by show kitB "bool" "dict" = _; decide +kernel
theorem ki_tuple_bool {n : List PyData} : kitB (tyN (.tuple n)) "bool" = some false := by show kitB "tuple" "bool" = _; decide +kernel
theorem ki_tuple_int {n : List PyData} : kitB (tyN (.tuple n)) "int" = some false := by show kitB "tuple" "int" = _; decide +kernel
theorem ki_tuple_str {n : List PyData} : kitB (tyN (.tuple n)) "str" = some false := by show kitB "tuple" "str" = _; decide +kernel
theorem ki_tuple_tuple {n : List PyData} : kitB (tyN (.tuple n)) "tuple" = some true := by show kitB "tuple" "tuple" = _; decide +kernel
theorem ki_tuple_list {n : List PyData} : kitB (tyN (.tuple n)) "list" = some false := by show kitB "tuple" "list" = _; decide +kernel
theorem ki_tuple_dict {n : List PyData} : kitB (tyN (.tuple n)) "dict" = some false := by show kitB "tuple" "dict" = _; decide +kernel
theorem ki_list_bool {n : List PyData} : kitB (tyN (.list n)) "bool" = some false := by show kitB "list" "bool" = _; decide +kernel
theorem ki_list_int {n : List PyData} : kitB (tyN (.list n)) "int" = some false := by show kitB "list" "int" = _; decide +kernel
theorem ki_list_str {n : List PyData} : kitB (tyN (.list n)) "str" = some false := by show kitB "list" "str" = _; decide +kernel
theorem ki_list_tuple {n : List PyData} : kitB (tyN (.list n)) "tuple" = some false := by show kitB "list" "tuple" = _; decide +kernel
theorem ki_list_list {n : List PyData} : kitB (tyN (.list n)) "list" = some true := by show kitB "list" "list" = _; decide +kernel
theorem ki_list_dict {n : List PyData} : kitB (tyN (.list n)) "dict" = some false := by show kitB "list" "dict" = _; decide +kernel
/-! ### the tape -/
def tapeKvs (ns : List Int) (a l s t : Int) : DKv := [(Sum.inr "cells", .list (ns.map .int)), (Sum.inr "at", .int a), (Sum.inr "left", .int l), (Sum.inr "seed", .int s), (Sum.inr "salt", .int t)]
structure TInv (ns : List Int) (a l s t : Int) : Prop where
  h : ∀ n ∈ ns, 0 ≤ n
  a0 : 0 ≤ a
  l0 : 0 ≤ l
  s0 : 0 ≤ s
  s1 : s < 2147483647
  t0 : 0 ≤ t
def tapeOb (K : PySem.W.Frag) (τ : Addr) : Ob where
  fp := fun a => a = τ
  ok := fun G H => ∃ ns a l s t, TInv ns a l s t ∧ (dicOb K τ (tapeKvs ns a l s t)).ok G H
  st := fun G H G' H' ⟨ns, a, l, s, t, i, h⟩ sb hh => ⟨ns, a, l, s, t, i, (dicOb K τ _).st G H G' H' h sb hh⟩
theorem tape_le {K : PySem.W.Frag} {τ : Addr} {ns a l s t} (i : TInv ns a l s t) : Ob.le (dicOb K τ (tapeKvs ns a l s t)) (tapeOb K τ) := ⟨fun _ => Iff.rfl, fun _ _ h => ⟨ns, a, l, s, t, i, h⟩⟩
theorem xs_tape {K : Kx} {τ : Addr} {ts : TS} {ρ : List Sl} {N B C : RE} {R : RD} (h : ∀ ns a l s t, TInv ns a l s t → XS K ts ρ (dicOb K τ (tapeKvs ns a l s t)) N R B C) : XS K ts ρ (tapeOb K τ) N R B C :=
  XS.enter fun G σ H e => by
    obtain ⟨ns, a, l, s, t, i, ok⟩ := e.wd.ok
    exact ⟨dicOb K τ (tapeKvs ns a l s t), ⟨⟨e.wd.sub, e.wd.nfp, e.wd.occ, ok⟩, e.len, e.sl, e.dis, e.onf⟩, fun _ h => .inl h, fun _ h => h, h ns a l s t i⟩
theorem tk_cells {ns a l s t} : valD (tapeKvs ns a l s t) (Sum.inr "cells") = some (.list (ns.map .int)) := by with_unfolding_all rfl
theorem tk_at {ns a l s t} : valD (tapeKvs ns a l s t) (Sum.inr "at") = some (.int a) := by with_unfolding_all rfl
theorem tk_left {ns a l s t} : valD (tapeKvs ns a l s t) (Sum.inr "left") = some (.int l) := by with_unfolding_all rfl
theorem tk_seed {ns a l s t} : valD (tapeKvs ns a l s t) (Sum.inr "seed") = some (.int s) := by with_unfolding_all rfl
theorem tk_salt {ns a l s t} : valD (tapeKvs ns a l s t) (Sum.inr "salt") = some (.int t) := by with_unfolding_all rfl
theorem tp_at {ns a l s t x} : putD (tapeKvs ns a l s t) (Sum.inr "at") (.int x) = tapeKvs ns x l s t := by with_unfolding_all rfl
theorem tp_left {ns a l s t x} : putD (tapeKvs ns a l s t) (Sum.inr "left") (.int x) = tapeKvs ns a x s t := by with_unfolding_all rfl
theorem tp_salt {ns a l s t x} : putD (tapeKvs ns a l s t) (Sum.inr "salt") (.int x) = tapeKvs ns a l s x := by with_unfolding_all rfl
section
variable {K : Kx} {τ : Addr} {ρ : List Sl} {N B C : RE} {R : RD} {ns : List Int} {a l s t x : Int} {i : Nat} {te : TE}
theorem xe_tget {k : Str} {d : PyData} (hv : valD (tapeKvs ns a l s t) (Sum.inr k) = some d) (hi : ρ[i]? = some (.raw (.ref τ))) (r : R (.d d) ρ (dicOb K τ (tapeKvs ns a l s t))) : XE K (tDGet (tVar i) (tC (.str k))) ρ (dicOb K τ (tapeKvs ns a l s t)) R :=
  xe_oget (xe_vr hi ⟨rfl, xe_str ⟨Sum.inr k, d, rfl, rfl, hv, r⟩⟩)
theorem xs_tput {k : Str} (F : Int → DKv) (hp : ∀ x, putD (tapeKvs ns a l s t) (Sum.inr k) (.int x) = F x) (hi : ρ[i]? = some (.raw (.ref τ))) (h : XE K te ρ (dicOb K τ (tapeKvs ns a l s t)) fun dv ρ' o' => ρ' = ρ ∧ o' = dicOb K τ (tapeKvs ns a l s t) ∧ ∃ x, dv = .d (.int x) ∧ N ρ (dicOb K τ (F x))) :
    XS K (sDPut (tVar i) (tC (.str k)) te) ρ (dicOb K τ (tapeKvs ns a l s t)) N R B C := xs_oput (τ := τ) (ps := tapeKvs ns a l s t) (XE.mono h fun dv ρ' o' ⟨h1, h2, x, h3, n⟩ => by
  subst h1 h2 h3
  exact xe_vr hi ⟨rfl, xe_str ⟨Sum.inr k, .int x, rfl, rfl, rfl, by show 5 < sizeLine; rw [sizeLine_eq]; decide, by rw [hp x]; exact n⟩⟩)
end
/-- the script, read -/
def scriptOb (K : PySem.W.Frag) (a : Addr) (ns : List Int) : Ob := ⟨fun _ => False, fun G _ => SqL K G a (ns.map V.int), fun _ _ _ _ h s _ => SqL.sub s h⟩
def S__law_take (K : PySem.W.Frag) : DS := fun dvs o R X => ∃ τ n, dvs = [.raw (.ref τ), .d (.int n)] ∧ o = tapeOb K τ ∧ 0 < n ∧ n ≤ 1000000 ∧ ∀ k, 0 ≤ k → k < n → R (.d (.int k)) (tapeOb K τ)

section
variable {K : Kx} {ρ : List Sl} {o : Ob} {R : RD} {N B C : RE} {te ta tb tc : TE} {tt : TT} {i : Nat} {T : TA} {g : TG} {is : List Nat}
theorem xc_abs {n : Int} (r : R (.d (.int (if n < 0 then -n else n))) ρ o) : XC K (fun xs H Q => ∃ i, xs = [.int i] ∧ Q (.int (if i < 0 then -i else i)) H) [.d (.int n)] ρ o R := fun G σ H vs e h0 Q q => by
  obtain ⟨v, rfl, h⟩ := va1 h0
  cases vok_int h
  exact ⟨n, rfl, xq_now q e r (.int _)⟩
/-- a comprehension over the script -/
theorem xe_lcI {tl : TE} (h : DL.XE K tl ρ o fun dv ρ1 o1 => ∃ a ns, dv = .raw (.ref a) ∧ o1 = scriptOb K a ns ∧ NoOw ρ1 is ∧ ∃ I : Nat → List PyData → Ob → Prop, I 0 [] o1 ∧
      (∀ k n acc o', ns[k]? = some n → acc.length < sizeLine → I k acc o' → ∃ ds, BT K g is (.int n) ds ∧ LcTurn K tt te ρ1 is ds o' fun y o2 => match y with | some d => (acc ++ [d]).length < sizeLine ∧ I (k + 1) (acc ++ [d]) o2 | none => I (k + 1) acc o2) ∧
      ∀ acc o', acc.length < sizeLine → I ns.length acc o' → R (.new (.lst acc)) ρ1 o') : DL.XE K (tLc (iList K tl) g tt te is) ρ o R := fun G σ H e0 Q q =>
  h G σ H e0 _ fun v dv ρ1 o1 G1 H1 ⟨a, ns, hd, ho, no, I, i0, it, ie⟩ s1 e1 okl _ => by
    subst hd
    subst ho
    have okl : v = .ref a := okl
    subst okl
    have hsq : SqL K G1 a (ns.map V.int) := e1.wd.ok
    refine ⟨a, rfl, ⟨_, SqL.sub e1.wd.sub hsq⟩, fun D hD => ?_⟩
    have fr := s1.old (.inl hD)
    refine lc_list (xs := ns.map V.int) (fun k H' => LcP K (I k) ρ σ o G H ρ1 G1 D H') (lc_start i0 s1 e1 hD) (fun k H' _ p => ?_) (fun k x H' hk p => ?_) fun H' p => ?_
    · obtain ⟨acc, o', G', xs, i, s, e, hD', gD, nf, nw, ok, hl, sb⟩ := p
      exact SqL.sub (sb.trans e.wd.sub) hsq
    · obtain ⟨acc, o', G', xs, i, s, e, hD', gD, nf, nw, ok, hl, sb⟩ := p
      rw [List.getElem?_map] at hk
      cases hn : ns[k]? with
      | none => rw [hn] at hk; cases hk
      | some n =>
        rw [hn] at hk
        cases hk
        obtain ⟨ds, bt, turn⟩ := it k n acc o' hn hl i
        exact lc_turn (I := I k) (I' := I (k + 1)) bt no fr s e hD' gD nf nw ok sb (.int _) hl e0.wo turn
    · rw [List.length_map] at p
      exact lc_end fr q ie p
end
section
variable {K : Kx}
theorem pp_str {s : Str} {tv : TE} {r : List (TE × TE)} {ρ : List Sl} {o : Ob} {J : DKv → RE} (h : XEF K tv ρ o fun b ρ2 o2 => ∃ d, b = .d d ∧ PPairs K r ρ2 o2 fun ps => J ((Sum.inr s, d) :: ps)) : PPairs K ((tC (.str s), tv) :: r) ρ o J :=
  .cons (fun k d ρ2 o2 => PPairs K r ρ2 o2 fun ps => J ((k, d) :: ps)) (xe_str ⟨Sum.inr s, rfl, h⟩) fun _ _ _ _ h => h
end
section
variable {K : Kx} {ρ : List Sl} {o : Ob} {R : RD}
/-- a tuple or a list -/
def IsSq (d : PyData) (ds : List PyData) : Prop := d = .tuple ds ∨ d = .list ds
theorem xc_lenQ {d : PyData} {ds : List PyData} (h : IsSq d ds) (r : R (.d (.int ds.length)) ρ o) : XC K (fun xs H Q => ∃ x n, xs = [x] ∧ LenV K x H n ∧ Q (.int (n : Nat)) H) [.d d] ρ o R := by
  rcases h with rfl | rfl
  · exact xc_lenT r
  · exact xc_lenL rfl r
theorem xr_ixQ {d : PyData} {ds : List PyData} {n : Int} {x : PyData} (h : IsSq d ds) (hx : atI ds n = some x) (r : R (.d x) ρ o) : XR K (rIx K) (.d d) (.d (.int n)) ρ o R := by
  rcases h with rfl | rfl
  · exact xr_ixT hx r
  · exact xr_ixL rfl hx r
end
section
variable {K : Kx} {ρ : List Sl} {o : Ob} {R : RD}
theorem xr_isN_non (r : R (.d (.bool true)) ρ o) : XR K (fun x y H Q => y = .non ∧ Q (.bl (decide (x = .non))) H) (.d (.none)) (.d .none) ρ o R := xr_isN r
theorem xr_notN_non (r : R (.d (.bool false)) ρ o) : XR K (fun x y H Q => y = .non ∧ Q (.bl (!decide (x = .non))) H) (.d (.none)) (.d .none) ρ o R := xr_notN r
theorem xr_isN_int {m : Int} (r : R (.d (.bool false)) ρ o) : XR K (fun x y H Q => y = .non ∧ Q (.bl (decide (x = .non))) H) (.d (.int m)) (.d .none) ρ o R := xr_isN r
theorem xr_notN_int {m : Int} (r : R (.d (.bool true)) ρ o) : XR K (fun x y H Q => y = .non ∧ Q (.bl (!decide (x = .non))) H) (.d (.int m)) (.d .none) ρ o R := xr_notN r
theorem xr_isN_str {m : Str} (r : R (.d (.bool false)) ρ o) : XR K (fun x y H Q => y = .non ∧ Q (.bl (decide (x = .non))) H) (.d (.str m)) (.d .none) ρ o R := xr_isN r
theorem xr_notN_str {m : Str} (r : R (.d (.bool true)) ρ o) : XR K (fun x y H Q => y = .non ∧ Q (.bl (!decide (x = .non))) H) (.d (.str m)) (.d .none) ρ o R := xr_notN r
theorem xr_isN_bl {m : Bool} (r : R (.d (.bool false)) ρ o) : XR K (fun x y H Q => y = .non ∧ Q (.bl (decide (x = .non))) H) (.d (.bool m)) (.d .none) ρ o R := xr_isN r
theorem xr_notN_bl {m : Bool} (r : R (.d (.bool true)) ρ o) : XR K (fun x y H Q => y = .non ∧ Q (.bl (!decide (x = .non))) H) (.d (.bool m)) (.d .none) ρ o R := xr_notN r
theorem xr_isN_tup {m : List PyData} (r : R (.d (.bool false)) ρ o) : XR K (fun x y H Q => y = .non ∧ Q (.bl (decide (x = .non))) H) (.d (.tuple m)) (.d .none) ρ o R := xr_isN r
theorem xr_notN_tup {m : List PyData} (r : R (.d (.bool true)) ρ o) : XR K (fun x y H Q => y = .non ∧ Q (.bl (!decide (x = .non))) H) (.d (.tuple m)) (.d .none) ρ o R := xr_notN r
theorem xr_isN_lst {m : List PyData} (r : R (.d (.bool false)) ρ o) : XR K (fun x y H Q => y = .non ∧ Q (.bl (decide (x = .non))) H) (.d (.list m)) (.d .none) ρ o R := xr_isN r
theorem xr_notN_lst {m : List PyData} (r : R (.d (.bool true)) ρ o) : XR K (fun x y H Q => y = .non ∧ Q (.bl (!decide (x = .non))) H) (.d (.list m)) (.d .none) ρ o R := xr_notN r
end
theorem atD_of {α : Type} {xs : List α} {z : Int} {j : Nat} {v : α} (e : z = (j : Int)) (h : xs[j]? = some v) : atI xs z = some v := by
  rw [e]
  have hj := (List.getElem?_eq_some_iff.mp h).1
  unfold atI ixN
  rw [if_pos (by omega), if_pos (by omega)]
  simpa using h
section
variable {K : Kx} {ρ : List Sl} {o : Ob} {R : RD} {T : TA} {te : TE}
theorem ty_s {s : Str} : TyD "str" (.d (.str s)) := rfl
theorem ty_l {s : List PyData} : TyD "list" (.d (.list s)) := rfl
theorem ty_o {i : Nat} {s : List PyData} : TyD "list" (.sl i (.lst s)) := rfl
theorem ty_n {s : List PyData} : TyD "list" (.new (.lst s)) := rfl
theorem nat_small {n : Nat} (h : Nat.ble n 1000 = true) : n ≤ sizeLine := Nat.le_trans (Nat.ble_eq.mp h) (by rw [sizeLine_eq]; decide)
theorem kept_s {i : Nat} {c : Cont} (h : ρ[i]? = some (.own c)) : DL.Kept ρ (.sl i c) := h
/-- arguments that are data -/
def XAD (K : Kx) (T : TA) (ρ : List Sl) (o : Ob) (R : List PyData → RE) : Prop := XAF K T ρ o fun dvs ρ' o' => ∃ ds : List PyData, dvs = ds.map .d ∧ R ds ρ' o'
theorem XAF.mono {R R' : List DV → RE} (h : XAF K T ρ o R) (k : ∀ ds ρ' o', R ds ρ' o' → R' ds ρ' o') : XAF K T ρ o R' := XA.mono h fun ds ρ' o' ⟨a, b⟩ => ⟨a, k _ _ _ b⟩
theorem xad_nil {R : List PyData → RE} (r : R [] ρ o) : XAD K tNil ρ o R := xaf_nil ⟨[], rfl, r⟩
theorem xad_cons {R : List PyData → RE} (h : XEF K te ρ o fun a ρ1 o1 => ∃ d, a = .d d ∧ XAD K T ρ1 o1 fun ds ρ2 o2 => R (d :: ds) ρ2 o2) : XAD K (tCons te T) ρ o R :=
  xaf_cons (XE.mono h fun a ρ1 o1 ⟨d, hd, r⟩ => by
    subst hd
    exact hr_d (XAF.mono r fun dvs ρ2 o2 ⟨ds, e, r⟩ => ⟨d :: ds, by rw [e]; rfl, r⟩))
theorem xe_tupD (h : XAD K T ρ o fun ds ρ' o' => ds.length ≤ sizeLine ∧ R (.d (.tuple ds)) ρ' o') : DL.XE K (tTup T) ρ o R := xe_tup (XAF.mono h fun dvs ρ' o' ⟨ds, e, l, r⟩ => ⟨ds, e, l, r⟩)
theorem xe_lstD (h : XAD K T ρ o fun ds ρ' o' => ds.length ≤ sizeLine ∧ R (.new (.lst ds)) ρ' o') : DL.XE K (tLst T) ρ o R := xe_lst (XAF.mono h fun dvs ρ' o' ⟨ds, e, l, r⟩ => ⟨ds, e, l, r⟩)
theorem len_small {α : Type} {l : List α} (h : Nat.ble l.length 1000 = true) : l.length ≤ sizeLine := by
  have := Nat.ble_eq.mp h
  exact Nat.le_trans this (by rw [sizeLine_eq]; decide)
end
/-- a call that never comes -/
def S_never (_ : PySem.W.Frag) : DS := fun _ _ _ _ => False
theorem never_ok {P : Program} {w : World} {K : PySem.W.Frag} {mg : Str → Option Value} {base : Heap} {k : Nat} {f : Addr} {fd : FuncData} {ps : List Str} : FnOk P w K mg base CX0 k f fd ps (spD K (S_never K)) :=
  ⟨fun vs H Q E ⟨_, _, _, _, _, _, _, z, _⟩ => z.elim, fun A outer s H args us vs Q E _ _ _ _ ⟨_, _, _, _, _, _, _, z, _⟩ => z.elim⟩
/-! ### known tests -/
theorem bs_t {A B : Prop} (h : A) : (true = true → A) ∧ (true = false → B) := ⟨fun _ => h, fun z => nomatch z⟩
theorem bs_f {A B : Prop} (h : B) : (false = true → A) ∧ (false = false → B) := ⟨fun z => (nomatch z), fun _ => h⟩
theorem bs_nt {A B : Prop} (h : B) : ((!true) = true → A) ∧ ((!true) = false → B) := ⟨fun z => (nomatch z), fun _ => h⟩
theorem bs_nf {A B : Prop} (h : A) : ((!false) = true → A) ∧ ((!false) = false → B) := ⟨fun _ => h, fun z => nomatch z⟩
theorem bs_d {A B p : Prop} [Decidable p] (h : p → A) (k : ¬ p → B) : (decide p = true → A) ∧ (decide p = false → B) := ⟨fun z => h (of_decide_eq_true z), fun z => k (of_decide_eq_false z)⟩
theorem bs_nd {A B p : Prop} [Decidable p] (h : ¬ p → A) (k : p → B) : ((!decide p) = true → A) ∧ ((!decide p) = false → B) := ⟨fun z => h (of_decide_eq_false (by simpa using z)), fun z => k (of_decide_eq_true (by simpa using z))⟩
theorem bs_b {A B : Prop} {b : Bool} (h : b = true → A) (k : b = false → B) : (b = true → A) ∧ (b = false → B) := ⟨h, k⟩
theorem bs_nb {A B : Prop} {b : Bool} (h : b = false → A) (k : b = true → B) : ((!b) = true → A) ∧ ((!b) = false → B) := ⟨fun z => h (by simpa using z), fun z => k (by simpa using z)⟩
theorem noow_cons {ρ : List Sl} {j : Nat} {js : List Nat} (h : Nat.blt j ρ.length = true ∧ ∀ c, ρ[j]? ≠ some (.own c)) (t : NoOw ρ js) : NoOw ρ (j :: js) := fun i hi => (List.mem_cons.mp hi).elim (fun e => by rw [e]; exact ⟨lt_of_blt h.1, h.2⟩) (t i)
theorem noow_nil {ρ : List Sl} : NoOw ρ [] := fun i hi => nomatch hi
/-! ### promises of the law's own defs -/
def S__law_tape (K : PySem.W.Frag) : DS := fun dvs o R X => ∃ a ns, dvs = [.raw (.ref a)] ∧ o = scriptOb K a ns ∧ ns.length ≤ 63 ∧ ∀ cs s, (∀ n ∈ cs, 0 ≤ n) → 0 ≤ s → s < 2147483647 → R (.new (.dic (tapeKvs cs 0 0 s 0))) o
/-- data of a depth, without dicts -/
inductive Sm : Nat → PyData → Prop where
  | non {n : Nat} : Sm n .none
  | bl {n : Nat} {b : Bool} : Sm n (.bool b)
  | int {n : Nat} {b : Int} : Sm n (.int b)
  | str {n : Nat} {b : Str} : Sm n (.str b)
  | tup {n : Nat} {ds : List PyData} (l : ds.length < 2 ^ 62) (h : ∀ d ∈ ds, Sm n d) : Sm (n + 1) (.tuple ds)
  | lst {n : Nat} {ds : List PyData} (l : ds.length < 2 ^ 62) (h : ∀ d ∈ ds, Sm n d) : Sm (n + 1) (.list ds)
def S__law_is_integer (_ : PySem.W.Frag) : DS := fun dvs o R X => ∃ n, dvs = [.d (.int n)] ∧ R (.d (.bool true)) o
def S__law_same_items (n : Nat) (_ : PySem.W.Frag) : DS := fun dvs o R X => ∃ m d ds, dvs = [.d d, .d d] ∧ n = m + 1 ∧ IsSq d ds ∧ ds.length < 2 ^ 62 ∧ (∀ d ∈ ds, Sm m d) ∧ R (.d (.bool true)) o
def S__law_same (n : Nat) (_ : PySem.W.Frag) : DS := fun dvs o R X => ∃ d, dvs = [.d d, .d d] ∧ Sm n d ∧ R (.d (.bool true)) o
/-- the codes of texts -/
def okc (c : Nat) : Prop := c = 10 ∨ (32 ≤ c ∧ c ≤ 126 ∧ c ≠ 37)
instance (c : Nat) : Decidable (okc c) := by unfold okc; infer_instance
structure TextOk (s : Str) (n : Nat) : Prop where
  len : s.length ≤ n
  ok : ∀ c ∈ s.cps.toList, okc c
def S__law_snippet (K : PySem.W.Frag) : DS := fun dvs o R X => ∃ τ, dvs = [.raw (.ref τ)] ∧ o = tapeOb K τ ∧ ∀ s, TextOk s 50 → R (.d (.str s)) (tapeOb K τ)
def S__law_char (K : PySem.W.Frag) : DS := fun dvs o R X => ∃ τ, dvs = [.raw (.ref τ)] ∧ o = tapeOb K τ ∧ ∀ s, TextOk s 1 → R (.d (.str s)) (tapeOb K τ)
def S__law_any_text (K : PySem.W.Frag) : DS := fun dvs o R X => ∃ τ n, dvs = [.raw (.ref τ), .d (.int n)] ∧ o = tapeOb K τ ∧ 0 ≤ n ∧ n ≤ 1000 ∧ ∀ s, TextOk s (50 * n.toNat) → R (.d (.str s)) (tapeOb K τ)
theorem TextOk.empty {n : Nat} : TextOk ⟨#[]⟩ n := ⟨Nat.zero_le _, fun c h => by simp at h⟩
theorem TextOk.mono {s : Str} {m n : Nat} (h : TextOk s m) (l : m ≤ n) : TextOk s n := ⟨Nat.le_trans h.len l, h.ok⟩
open TL
theorem len_tl (s : Str) : s.length = (tl s).length := by
  show s.cps.size = s.cps.toList.length
  rw [Array.length_toList]
theorem str_ext {a b : Str} (h : tl a = tl b) : a = b := by
  cases a with
  | mk x => cases b with
    | mk y =>
      have : x = y := by
        apply Array.ext'
        exact h
      rw [this]
theorem str_eq_iff {a b : Str} : a = b ↔ tl a = tl b := ⟨fun h => by rw [h], str_ext⟩
theorem cutD_from {xs : List PyData} (k : Nat) : DL.cutD xs (some (k : Int)) none = xs.drop k := by
  unfold DL.cutD
  rw [HT.sIx_nat, HT.sIx_none]
  by_cases h : k ≤ xs.length
  · rw [Nat.min_eq_left h, List.take_of_length_le (by rw [List.length_drop]; exact Nat.le_refl _)]
  · rw [Nat.min_eq_right (by omega), List.drop_length, List.drop_of_length_le (by omega)]
    simp
theorem cutD_to {xs : List PyData} (k : Nat) : DL.cutD xs none (some (k : Int)) = xs.take k := by
  unfold DL.cutD
  rw [HT.sIx_nat, HT.sIx_none, List.drop_zero, Nat.sub_zero]
  by_cases h : k ≤ xs.length
  · rw [Nat.min_eq_left h]
  · rw [Nat.min_eq_right (by omega), List.take_length, List.take_of_length_le (by omega)]
abbrev nI (n : Nat) : PyData := .int (n : Int)
theorem map_get {α β : Type} {f : α → β} {l : List α} {k : Nat} {d : β} (h : (l.map f)[k]? = some d) : ∃ x, l[k]? = some x ∧ d = f x := by
  rw [List.getElem?_map] at h
  cases q : l[k]? with
  | none => rw [q] at h; cases h
  | some x => rw [q] at h; exact ⟨x, rfl, (Option.some.inj h).symm⟩
theorem take_snoc {α : Type} {l : List α} {k : Nat} {x : α} (h : l[k]? = some x) : l.take (k + 1) = l.take k ++ [x] := by
  rw [List.take_add_one, h]; rfl
theorem joinL_nil : ∀ l : List (List Nat), joinL [] l = l.flatten
  | [] => rfl
  | [x] => by show x = x ++ []; rw [List.append_nil]
  | p :: q :: r => by
    show p ++ ([] ++ joinL [] (q :: r)) = p ++ (q :: r).flatten
    rw [List.nil_append, joinL_nil (q :: r)]
theorem join_tl (y : Str) (parts : List Str) : tl (Txt.join y parts) = joinL (tl y) (parts.map tl) := by rw [join_eq, tl_join]
theorem joinE_tl (ys : List Str) : tl (Txt.join "" ys) = (ys.map tl).flatten := by
  rw [join_tl]
  have : tl ("" : Str) = [] := by decide +kernel
  rw [this, joinL_nil]
theorem flat_ok {m : Nat} : ∀ {ys : List Str}, (∀ s ∈ ys, TextOk s m) → (ys.map tl).flatten.length ≤ m * ys.length ∧ (∀ c ∈ (ys.map tl).flatten, okc c) ∧ (ys.map (·.length)).sum ≤ m * ys.length
  | [], _ => ⟨Nat.le_refl _, fun c h => by simp at h, Nat.le_refl _⟩
  | s :: ys, h => by
    obtain ⟨h1, h2, h3⟩ := flat_ok fun z hz => h z (List.mem_cons_of_mem _ hz)
    have hs := h s List.mem_cons_self
    have hl := hs.len
    rw [len_tl] at hl
    rw [List.map_cons, List.flatten_cons, List.length_append, List.length_cons, List.map_cons, List.sum_cons, Nat.mul_succ, len_tl]
    refine ⟨by omega, fun c hc => ?_, by omega⟩
    rcases List.mem_append.mp hc with z | z
    · exact hs.ok c z
    · exact h2 c z
theorem TextOk.join {m k : Nat} {ys : List Str} (h : ∀ s ∈ ys, TextOk s m) (hk : ys.length ≤ k) : TextOk (Txt.join "" ys) (m * k) := by
  obtain ⟨h1, h2, _⟩ := flat_ok h
  refine ⟨?_, ?_⟩
  · rw [len_tl, joinE_tl]; exact Nat.le_trans h1 (Nat.mul_le_mul_left m hk)
  · rw [show (Txt.join "" ys).cps.toList = tl (Txt.join "" ys) from rfl, joinE_tl]; exact h2
theorem join_room {m k : Nat} {ys : List Str} (h : ∀ s ∈ ys, TextOk s m) (hk : ys.length ≤ k) (hm : m * k ≤ 16777216) : (ys.map (·.length)).sum + ys.length * ("" : Str).length ≤ 16777216 := by
  obtain ⟨_, _, h3⟩ := flat_ok h
  have e : ("" : Str).length = 0 := by decide +kernel
  rw [e, Nat.mul_zero, Nat.add_zero]
  exact Nat.le_trans h3 (Nat.le_trans (Nat.mul_le_mul_left m hk) hm)
/-- a written text is such a text -/
theorem textOk_of {s : Str} {n : Nat} (h : (decide (s.length ≤ n) && s.cps.toList.all (fun c => decide (okc c))) = true) : TextOk s n := by
  rw [Bool.and_eq_true] at h
  exact ⟨of_decide_eq_true h.1, fun c hc => of_decide_eq_true (List.all_eq_true.mp h.2 c hc)⟩
end DL

set_option Elab.async false
set_option linter.all false
set_option maxRecDepth 100000
namespace DL
open PySem PySem.Spec PyProof.Rows L2
/-! ### str.replace of written texts: a token must be out -/
section
variable {X : Cx} {pos : Pos}
theorem PSsT.nox {st : List Stmt} {t : TS} (h : PSsT X.nox st t) : PSsT X st t := fun pins s σ H D h0 I hw =>
  wpAny_mono (h pins s σ H D h0 (I.wish _) hw) (fun _ _ q => q.unwish) fun _ _ z => False.elim z
theorem PET.of {e : Expr} {t : TE} (h : PE X e t) : PET X e t := fun pins s σ H Q _ I q => h.run pins s σ H Q I q
theorem pst_if {c : Expr} {a b : List Stmt} {tc : TT} {t u : TS} (hc : PT X c tc) (ha : PSsT X a t) (hb : PSsT X b u) : PST X (.If c a b pos) (tIfS tc t u) := fun pins s σ H D h0 I h => by
  refine wpAny_If (wpAny_mono (PySem.wpAny_toks (hc.run pins s σ H _ I h)) (fun d s1 q => ?_) fun _ _ x => x.2)
  obtain ⟨hk, H1, I1, q1⟩ := q
  cases d with
  | true => exact ha pins s1 σ H1 D (Nat.le_trans h0 hk) I1 q1
  | false => exact hb pins s1 σ H1 D (Nat.le_trans h0 hk) I1 q1
theorem pst_set {i : Nat} {x : Str} {e : Expr} {te : TE} {pos' : Pos} (hN : X.N.Nodup) (hi : X.N[i]? = some x) (hx : Loc X.env.scope x) (he : PET X e te) (hs : swapsWith e (some (.Name x pos')) pos.line X.env = pure false := by rfl) (hf : X.fn x = true ∨ X.env.scope.names.lookup x = some .local := by first | exact .inl rfl | exact .inr rfl | assumption) :
    PST X (.Assign [.Name x pos'] e pos) (tAsg te (gName i)) := fun pins s σ H D h0 I h => by
  refine wpAny_Assign_Name (thn (he pins s σ H _ h0 I h) fun v s1 ⟨y, H1, I1, r1, q1⟩ => ?_) hs
  exact store_ok I1 hN hi hx r1 (fun s2 I2 => ⟨_, H1, I2, q1⟩) hf
theorem pst_ret {e : Expr} {te : TE} (he : PET X e te) : PST X (.Return (some e) pos) (tRet te) := fun pins s σ H D h0 I h =>
  wpAny_Return_some (thn (he pins s σ H _ h0 I h) fun v s1 ⟨x, H1, I1, r1, q1⟩ => ⟨x, σ, H1, I1, r1, q1⟩)
theorem psst_nil : PSsT X [] tNext := PSsT.of pss_nil
theorem psst_one {st : Stmt} {t : TS} (h : PST X st t) : PSsT X [st] t := fun pins s σ H D h0 I hw => by
  refine wpAny_execs_cons (thn (h pins s σ H D h0 I hw) fun f s1 q => ?_)
  cases f with
  | next => exact wpAny_execs_nil q
  | ret v => exact q
  | brk => exact q
  | cont => exact q
def tRepC (y z : Str) (to : TE) : TE := fun σ H Q => to σ H fun x H1 => ∃ a, x = .str a ∧ a.length + (a.length + 1) * z.length ≤ 16777216 ∧ Q (.str (Txt.replace a y z)) H1
theorem pet_repC {o : Expr} {to : TE} {y z : Str} {j0 j1 : Nat} {c0 c1 apos : Pos} (ho : PET X o to) (hyz : (y == z) = false)
    (hst : starEach [.Constant (.str y) j0 c0, .Constant (.str z) j1 c1] X.env = [(false, eval (.Constant (.str y) j0 c0) X.env), (false, eval (.Constant (.str z) j1 c1) X.env)] := by rfl)
    (hbase : attributeBase o "replace" X.env (eval o X.env) = eval o X.env := by rfl) (hline : (apos.endLine == pos.line) = true := by rfl) :
    PET X (.Call (.Attribute o "replace" apos) [.Constant (.str y) j0 c0, .Constant (.str z) j1 c1] [] pos) (tRepC y z to) := fun pins s σ H Q h0 I h => by
  refine PySem.Call_method2 hbase hst hline (wpAny_mono (PySem.wpAny_toks (ho pins s σ H _ h0 I h)) (fun v s1 q => ?_) fun _ _ x => x.2)
  obtain ⟨hk, x, H1, I1, r1, a, rfl, hb, q⟩ := q
  obtain ⟨tx, rfl⟩ := r1
  have h1 : 1 ≤ s1.toks := Nat.le_trans h0 hk
  refine ⟨"str", _, F.plainAttrs_str, F.slot_str_replace, F.type_str_replace, typeIs_str _ _ _, (fun _ e => nomatch e), Calls.callWith_builtin rfl (Calls.evalArgs_plain (Calls.spliced_cons ?_))⟩
  refine Calls.Constant_str (Calls.spliced_cons (Calls.Constant_str (Calls.spliced_nil ?_)))
  exact PySem.SC.replace (show s1.toks ≠ 0 by omega) (show s1.toks + 1 ≠ 0 by omega) (show s1.toks ≠ s1.toks + 1 by omega) hyz hb fun t' k => ⟨.str (Txt.replace a y z), H1, I1.tok k, ⟨t', rfl⟩, q⟩
end
section
variable {K : Kx} {ρ : List Sl} {o : Ob} {R : RD} {te : TE}
theorem xe_repC {y z : Str} (h : DL.XE K te ρ o fun dv ρ1 o1 => ∃ a, dv = .d (.str a) ∧ a.length + (a.length + 1) * z.length ≤ 16777216 ∧ R (.d (.str (Txt.replace a y z))) ρ1 o1) : DL.XE K (tRepC y z te) ρ o R := fun G σ H e Q q =>
  h.seq e fun x a ρ1 o1 G1 H1 ⟨s, hd, hl, r⟩ s1 e1 ok1 fr1 => by
    subst hd
    exact ⟨s, vok_str ok1, hl, q _ _ _ _ _ _ r s1 e1 (.str _) trivial⟩
end
section
variable {P : Program} {w : World} {K : PySem.W.Frag} {mg : Str → Option Value} {base : Heap}
/-- THE RULE for a def without cells, one parameter at least, a token out -/
theorem fnDT {x qual : Str} {st : Stmt} {f : Addr} {fd : FuncData} {N ps : List Str} {k : Nat} {S : DS} (F : Fun K x qual st f fd) (Sc : FnScope N ps (defScope st))
    (hnc : ∀ y ∈ (defScope st).names, y.2 ≠ .cell) (hps : 1 ≤ ps.length)
    (len : ∀ dvs o R X, S dvs o R X → dvs.length = ps.length)
    (hb : ∀ (cdv : Value) (A : Around) (outer : List Env) (s : Shared) (H : Hp) (E : XK), Room k (A.deeper (envOfC qual (defScope st) s.heap.objs.size f cdv)) →
      ∃ t, PSsT (cxOf CX0 P w K mg base N qual (defScope st) f cdv A outer s H E).nox (defBody st) t ∧ ∀ dvs o R X, S dvs o R X → XS (KN K) t (startD N.length dvs) o (fun _ o' => R (.d .none) o') (OutR R) (fun _ _ => False) (fun _ _ => False)) :
    FnOk P w K mg base CX0 (k + 1) f fd ps (spD K S) := by
  obtain ⟨oc, od, kV, doc, pm, an, cdv, ct, osl, rfl, lk, hcd⟩ := F.ex
  refine fn_ofT lk hcd Sc hnc hps (fun vs H Q E ⟨G, o, dvs, R, X, _, a, h, _⟩ => by rw [a.len]; exact len dvs o R X h) fun A outer s H vs Q E hr ⟨G, o, dvs, R, X, wd, a, h, q, _⟩ => ?_
  obtain ⟨t, ht, hx⟩ := hb cdv A outer s H E hr
  exact ⟨t, PSsT.nox ht, out_run (K := KN K) wd a q wo_none (hx dvs o R X h)⟩
end
/-! ### truth -/
def tTru (K : PySem.W.Frag) (te : TE) : TT := fun σ H Q => te σ H fun x H' => ∃ k, TruV K x H' k ∧ Q k H'
theorem pt_truK {X : Cx} {K : PySem.W.Frag} {a : Expr} {ta : TE} (h : X.K = K) (ha : PE X a ta) (he : ∀ whole, isTrue a X.env whole = (do let v ← whole; standAt a.pos; holding [v] (truthy v))) : PT X a (tTru K ta) := by
  subst h
  exact pt_truth ha he
def TruD : DV → Bool → Prop
  | .d .none, b => b = false
  | .d (.bool k), b => b = k
  | .d (.int i), b => b = (i != 0)
  | .d (.str z), b => z.length ≤ sizeLine ∧ b = ((z.length : Int) != 0)
  | .d (.list l), b => b = !l.isEmpty
  | .d (.tuple l), b => b = !l.isEmpty
  | .sl _ (.lst l), b => b = !l.isEmpty
  | .new (.lst l), b => b = !l.isEmpty
  | _, _ => False
theorem RpAll.emp {K : PySem.W.Frag} {G : Hp} {xs : List V} {ds : List PyData} (h : RpAll K G xs ds) : xs.isEmpty = ds.isEmpty := by cases h <;> rfl
section
variable {K : Kx} {ρ : List Sl} {o : Ob} {R : RD} {te : TE} {i : Nat} {R' : Bool → RE}
theorem TruD.ok {dv : DV} {b : Bool} (h : TruD dv b) {G : Hp} {σ : L2.St} {H : Hp} {x : V} (e : En K o ρ G σ H) (ok : VOk K o ρ G σ H x dv) : TruV K x H b := by
  have lst : ∀ {dv : DV} {l : List PyData}, IsL ρ dv l → VOk K o ρ G σ H x dv → b = (!l.isEmpty) → TruV K x H b := fun {dv l} il ok hb => by
    obtain ⟨p, xs, rfl, hp, hr⟩ := il.at e ok
    exact .inl ⟨xs, .inl (.inl hp), by rw [hr.emp]; exact hb⟩
  cases dv with
  | d z =>
    cases z with
    | none => cases vok_non ok; exact h
    | bool k => cases vok_bl ok; exact h
    | int k => cases vok_int ok; exact h
    | str k => cases vok_str ok; exact h
    | list l => exact lst (dv := .d (.list l)) rfl ok h
    | tuple l =>
      cases ok with
      | tup h1 h2 => exact .inr (.inl ⟨_, SqT.sub e.wd.sub h1, by rw [h2.emp]; exact h⟩)
    | dict _ => exact h.elim
  | raw _ => exact h.elim
  | sl j c => cases c with
    | lst l => exact lst (dv := .sl j (.lst l)) rfl ok h
    | dic _ => exact h.elim
  | new c => cases c with
    | lst l => exact lst (dv := .new (.lst l)) rfl ok h
    | dic _ => exact h.elim
theorem xt_tru (h : DL.XE K te ρ o fun dv ρ1 o1 => ∃ b, TruD dv b ∧ R' b ρ1 o1) : XT K (tTru K te) ρ o R' := fun G σ H e Q q =>
  h.seq e fun x dv ρ1 o1 G1 H1 ⟨b, ht, r⟩ s1 e1 ok1 fr1 => ⟨b, ht.ok e1 ok1, q _ _ _ _ _ r s1 e1⟩
theorem tru_b {k : Bool} : TruD (.d (.bool k)) k := rfl
theorem tru_n : TruD (.d .none) false := rfl
theorem tru_l {l : List PyData} : TruD (.d (.list l)) (!l.isEmpty) := rfl
theorem tru_t {l : List PyData} : TruD (.d (.tuple l)) (!l.isEmpty) := rfl
theorem tru_s {l : List PyData} : TruD (.sl i (.lst l)) (!l.isEmpty) := rfl
/-- a name whose thing is owned and no list: it waits for a word -/
def XEV (K : Kx) (i : Nat) (ρ : List Sl) (o : Ob) (R : RD) : Prop := XEF K (tVar i) ρ o R
theorem xf_stuck {i : Nat} {ρ : List Sl} {o : Ob} {R : RD} (h : XEV K i ρ o R) : XEF K (tVar i) ρ o R := h
/-- the tape, first handed on -/
theorem xf_tape {ns : List Int} {a l s t : Int} (hi : ρ[i]? = some (.own (.dic (tapeKvs ns a l s t)))) (inv : TInv ns a l s t) (r : ∀ τ, R (.raw (.ref τ)) (ρ.set i (.raw (.ref τ))) (tapeOb K τ)) : XEV K i ρ o R := fun G σ H e Q q => by
  obtain ⟨p, y, h1, h2, h3, ok, nf⟩ := e.own_at hi
  obtain ⟨kvs, rfl, kv⟩ := dic_rep ok
  have hl : i < ρ.length := (List.getElem?_eq_some_iff.mp hi).1
  have own : Own ρ σ p := ⟨i, ⟨_, hi⟩, h1⟩
  have back : ∀ j q, OwnAt (ρ.set i (.raw (.ref p))) σ j q → OwnAt ρ σ j q ∧ j ≠ i := fun j q ⟨⟨c, hc⟩, hs⟩ => by
    by_cases hj : j = i
    · subst hj; rw [List.getElem?_set_self hl] at hc; cases hc
    · rw [List.getElem?_set_ne (Ne.symm hj)] at hc; exact ⟨⟨⟨c, hc⟩, hs⟩, hj⟩
  have s0 : Stp ρ σ o G H (ρ.set i (.raw (.ref p))) σ (tapeOb K p) G H := ⟨Sub.refl, fun _ _ h _ _ => h, fun _ h _ _ _ => h, fun a ha => .inr (.inr (by have : a = p := ha; rw [this]; exact own)), fun a ⟨j, hq⟩ => .inl ⟨j, (back j a hq).1⟩⟩
  have e2 : En K (tapeOb K p) (ρ.set i (.raw (.ref p))) G σ H := by
    refine ⟨⟨⟨e.wd.sub, fun a ha => ?_, fun a ha => ?_, ⟨ns, _, _, _, _, inv, kvs, h3, kv⟩⟩, by simpa using e.len, fun j s' hj => ?_, fun j k q a b => e.dis j k q (back j q a).1 (back k q b).1, fun q ⟨j, hq⟩ z => ?_⟩, e.wo.step s0⟩
    · have : a = p := ha
      rw [this]; exact h2
    · have : a = p := ha
      rw [this]; exact ⟨_, h3⟩
    · by_cases hji : j = i
      · subst hji
        rw [List.getElem?_set_self hl] at hj
        cases hj
        exact ⟨_, h1, rfl⟩
      · rw [List.getElem?_set_ne (Ne.symm hji)] at hj
        exact e.sl j s' hj
    · have : q = p := z
      subst this
      exact (back j q hq).2 (e.dis j i q (back j q hq).1 ⟨⟨_, hi⟩, h1⟩)
  exact ⟨_, h1, q _ _ _ _ _ _ (r p) s0 e2 rfl trivial⟩
end
/-- a statement that the walk does not look into -/
def Hold (p : Prop) : Prop := p
theorem hold {p : Prop} (h : p) : Hold p := h
theorem opt_beq {c d : Nat} : (some c == some d) = decide (c = d) := by
  by_cases h : c = d
  · subst h; simp
  · simp [h]
theorem sgn_eq {c d : Nat} {s : Str} (hs : TL.tl s = [d]) : ((⟨#[c]⟩ : Str) = s) ↔ c = d := by
  rw [str_eq_iff, hs]
  show [c] = [d] ↔ c = d
  simp
theorem sgn_dec {c d : Nat} {s : Str} (hs : TL.tl s = [d]) : decide ((⟨#[c]⟩ : Str) = s) = decide (c = d) := by
  rw [decide_eq_decide]; exact sgn_eq hs
/-! ### the law's own start -/
def S_law (K : PySem.W.Frag) : DS := fun dvs o R X => ∃ a ns, dvs = [.raw (.ref a)] ∧ o = scriptOb K a ns ∧ ns.length ≤ 63 ∧ ∀ o', R (.d (.bool true)) o'
theorem law_start {K : PySem.W.Frag} {H : Hp} {a : Addr} {ns : List Int} (hl : ns.length ≤ 63) (hS : SqL K H a (ns.map V.int)) : spD K (S_law K) [.ref a] H (fun v _ => v = .bl true) fun _ _ _ => False :=
  ⟨H, scriptOb K a ns, [.raw (.ref a)], fun dv _ => dv = .d (.bool true), fun _ _ => False, ⟨Sub.refl, fun _ h => h.elim, fun _ h => h.elim, hS⟩, .cons rfl .nil, ⟨a, ns, rfl, rfl, hl, fun _ => rfl⟩,
    fun v dv o' G' H' hd _ _ ok _ => by subst hd; exact vok_bl ok, fun _ _ _ _ _ _ h => h.elim⟩
end DL

set_option Elab.async false
set_option linter.all false
set_option maxRecDepth 100000
namespace DL
open PySem PySem.Spec PyProof.Rows L2 TL
/-! ### pieces of texts -/
theorem tl_cut (z : Str) (lo hi : Option Int) : tl (cutS z lo hi) = ((tl z).drop (HT.sIx z.length 0 lo)).take (HT.sIx z.length z.length hi - HT.sIx z.length 0 lo) := by
  show (cutS z lo hi).cps.toList = _
  unfold cutS
  rw [List.toList_toArray]
theorem tl_cutTo (z : Str) (n : Nat) : tl (cutS z none (some (n : Int))) = (tl z).take n := by
  rw [tl_cut, HT.sIx_nat, HT.sIx_none, List.drop_zero, Nat.sub_zero]
  by_cases h : n ≤ z.length
  · rw [Nat.min_eq_left h]
  · rw [Nat.min_eq_right (by omega), List.take_of_length_le (by rw [← len_tl]; exact Nat.le.refl), List.take_of_length_le (by rw [← len_tl]; omega)]
theorem tl_cutFrom (z : Str) (n : Nat) : tl (cutS z (some (n : Int)) none) = (tl z).drop n := by
  rw [tl_cut, HT.sIx_nat, HT.sIx_none]
  by_cases h : n ≤ z.length
  · rw [Nat.min_eq_left h, List.take_of_length_le (by rw [List.length_drop, ← len_tl]; exact Nat.le_refl _)]
  · rw [Nat.min_eq_right (by omega), List.drop_of_length_le (by rw [← len_tl]; exact Nat.le_refl _), List.drop_of_length_le (by rw [← len_tl]; omega)]
    simp
theorem tl_cutN (z : Str) (m n : Nat) : tl (cutS z (some (m : Int)) (some (n : Int))) = ((tl z).take n).drop m := by
  rw [tl_cut, HT.sIx_nat, HT.sIx_nat, List.drop_take]
  have e : (tl z).length = z.length := (len_tl z).symm
  by_cases h : m ≤ z.length
  · rw [Nat.min_eq_left h]
    by_cases k : n ≤ z.length
    · rw [Nat.min_eq_left k]
    · rw [Nat.min_eq_right (by omega), List.take_of_length_le (by rw [List.length_drop, e]; exact Nat.le_refl _), List.take_of_length_le (by rw [List.length_drop, e]; omega)]
  · rw [Nat.min_eq_right (Nat.le_of_lt (Nat.lt_of_not_le h)), List.drop_of_length_le (by rw [e]; exact Nat.le_refl _), List.drop_of_length_le (by rw [e]; omega)]
    simp
theorem cut_len (z : Str) (lo hi : Option Int) : (cutS z lo hi).length ≤ z.length := by
  rw [len_tl, tl_cut, List.length_take, List.length_drop, len_tl z]
  omega
/-- the last item -/
theorem atI_last {α : Type} {xs : List α} {v : α} : atI (xs ++ [v]) (-1) = some v := by
  unfold atI ixN
  rw [List.length_append, List.length_singleton, if_neg (by decide), if_pos (by omega)]
  show (xs ++ [v])[((-1 : Int) + ((xs.length + 1 : Nat) : Int)).toNat]? = _
  have : ((-1 : Int) + ((xs.length + 1 : Nat) : Int)).toNat = xs.length := by omega
  rw [this, List.getElem?_append_right (Nat.le_refl _), Nat.sub_self]
  rfl
theorem min_int (a b : Nat) : (if (b : Int) < (a : Int) then (b : Int) else (a : Int)) = ((min a b : Nat) : Int) := by
  split <;> omega
theorem max_int (a b : Nat) : (if (b : Int) > (a : Int) then (b : Int) else (a : Int)) = ((max a b : Nat) : Int) := by
  split <;> omega
theorem le_sum_mem {x : Nat} : ∀ {l : List Nat}, x ∈ l → x ≤ l.sum
  | y :: l, h => by
    rw [List.sum_cons]
    rcases List.mem_cons.mp h with e | e
    · omega
    · have := le_sum_mem e; omega
theorem sum_succ {α : Type} (f : α → Nat) : ∀ l : List α, (l.map fun z => f z + 1).sum = (l.map f).sum + l.length
  | [] => rfl
  | n :: l => by
    rw [List.map_cons, List.sum_cons, List.map_cons, List.sum_cons, sum_succ f l, List.length_cons]
    omega
theorem sum_cast : ∀ l : List Nat, (l.map fun n : Nat => (n : Int)).sum = ((l.sum : Nat) : Int)
  | [] => rfl
  | n :: l => by
    rw [List.map_cons, List.sum_cons, List.sum_cons, sum_cast l]
    omega
section
variable {K : Kx} {ρ : List Sl} {o : Ob} {R : RD}
theorem bs_ifI {x y : Int} {p : Prop} [Decidable p] (h : R (.d (.int (if p then x else y))) ρ o) : (decide p = true → DL.XE K (tC (.int x)) ρ o R) ∧ (decide p = false → DL.XE K (tC (.int y)) ρ o R) :=
  ⟨fun z => xe_int (by rw [if_pos (of_decide_eq_true z)] at h; exact h), fun z => xe_int (by rw [if_neg (of_decide_eq_false z)] at h; exact h)⟩
theorem isl_n {ds : List PyData} : IsL ρ (.new (.lst ds)) ds := rfl
theorem isl_o {i : Nat} {ds : List PyData} : IsL ρ (.sl i (.lst ds)) ds := rfl
theorem isl_d {ds : List PyData} : IsL ρ (.d (.list ds)) ds := rfl
theorem xc_sumN {d : DV} {ns : List Nat} (l : IsL ρ d (ns.map nI)) (r : R (.d (.int (ns.sum : Nat))) ρ o) : XC K (rSum K) [d] ρ o R :=
  xc_sum (ns := ns.map fun n : Nat => (n : Int)) (by rw [List.map_map]; exact l) (by rw [sum_cast]; exact r)
end
/-! ### a tuple of texts of the module -/
theorem rp_all_strs {K : PySem.W.Frag} {G : Hp} : ∀ ws : List Str, RpAll K G (ws.map V.str) (ws.map .str)
  | [] => .nil
  | w :: ws => .cons (.str w) (rp_all_strs ws)
theorem rp_strs {K : PySem.W.Frag} {f : Addr} {ob : Obj} {its : Array Value} {n : Nat} {ws : List Str} (h : K.lookup f = some ob) (hc : ob.cls = .type "tuple") (hd : ob.data = .seq its n) (hv : Vals (ws.map V.str) its.toList) (hs : Nat.ble ws.length 1000 = true := by rfl) : ∀ G, Rp K G (.ref f) (.tuple (ws.map .str)) := fun G => by
  refine .tup (.inr ⟨ob, its, n, h, hc, hd, ?_, hv⟩) (rp_all_strs ws)
  have := hv.length
  rw [List.length_map] at this
  have e : its.toList.length = its.size := by simp
  have := Nat.ble_eq.mp hs
  rw [sizeLine_eq]
  omega
theorem inV_strs {s : Str} : ∀ {ws : List Str}, inV (.str s) (ws.map V.str) = decide (s ∈ ws)
  | [] => rfl
  | w :: ws => by
    have ih := inV_strs (s := s) (ws := ws)
    unfold inV at ih ⊢
    rw [List.map_cons, List.any_cons, ih]
    show ((w == s) || _) = _
    by_cases h : w = s
    · subst h; simp
    · have : ¬ s = w := fun e => h e.symm
      simp [h, this]
theorem flat_strs : ∀ ws : List Str, (ws.map V.str).all flatV = true
  | [] => rfl
  | w :: ws => by rw [List.map_cons, List.all_cons, flat_strs ws]; rfl
section
variable {K : Kx} {ρ : List Sl} {o : Ob} {R : RD}
theorem xe_conR {a : Addr} {d : PyData} (h : ∀ G, Rp K G (.ref a) d) (r : R (.d d) ρ o) : DL.XE K (tC (.ref a)) ρ o R := xe_con h r
theorem xr_inTs {s : Str} {ws : List Str} (r : R (.d (.bool (decide (s ∈ ws)))) ρ o) : XR K (rInU K) (.d (.str s)) (.d (.tuple (ws.map .str))) ρ o R := xr_or2 (xr_or1 fun G σ H x y e h1 h2 Q q => by
  cases vok_str h1
  cases h2 with
  | @tup a xs _ hs ok =>
  cases ok.of_strs
  exact ⟨a, _, rfl, .inr (SqT.sub e.wd.sub hs), rfl, flat_strs ws, by rw [inV_strs]; exact xq_now q e r (.bl _)⟩)
theorem xr_inLs {s : Str} {dv : DV} {ws : List Str} (l : IsL ρ dv (ws.map .str)) (r : R (.d (.bool (decide (s ∈ ws)))) ρ o) : XR K (rInU K) (.d (.str s)) dv ρ o R := xr_or2 (xr_or1 fun G σ H x y e h1 h2 Q q => by
  cases vok_str h1
  obtain ⟨p, xs, rfl, hp, ok⟩ := l.at e h2
  cases ok.of_strs
  exact ⟨p, _, rfl, .inl (.inl (.inl hp)), rfl, flat_strs ws, by rw [inV_strs]; exact xq_now q e r (.bl _)⟩)
end
/-! ### data that == may look at -/
structure Shp (n : Nat) (d : PyData) : Prop where
  l : PyData.canLay0 d = true
  d : PyData.depth d ≤ n
theorem Shp.shaped {n : Nat} {d : PyData} (h : Shp n d) (hn : n ≤ 64 := by decide) : SeqAt.shaped d = true := by
  unfold SeqAt.shaped
  rw [h.l, decide_eq_true (Nat.le_trans h.d hn)]; rfl
theorem shp_int {n : Nat} {i : Int} : Shp n (.int i) := ⟨rfl, Nat.zero_le _⟩
theorem shp_all {n : Nat} : ∀ {ds : List PyData}, (∀ d ∈ ds, Shp n d) → PyData.canLayAll0 ds = true ∧ PyData.depthAll ds ≤ n
  | [], _ => ⟨rfl, Nat.zero_le _⟩
  | d :: ds, h => by
    obtain ⟨h1, h2⟩ := shp_all (ds := ds) fun x hx => h x (List.mem_cons_of_mem _ hx)
    have h0 := h d (List.mem_cons_self ..)
    refine ⟨by show (PyData.canLay0 d && _) = true; rw [h0.l, h1]; rfl, ?_⟩
    show max (PyData.depth d) (PyData.depthAll ds) ≤ n
    have := h0.d
    omega
theorem shp_tup {n : Nat} {ds : List PyData} (h : ∀ d ∈ ds, Shp n d) : Shp (n + 1) (.tuple ds) := ⟨(shp_all h).1, Nat.succ_le_succ (shp_all h).2⟩
theorem shp_lst {n : Nat} {ds : List PyData} (h : ∀ d ∈ ds, Shp n d) : Shp (n + 1) (.list ds) := ⟨(shp_all h).1, Nat.succ_le_succ (shp_all h).2⟩
end DL

set_option Elab.async false
set_option linter.all false
set_option maxRecDepth 100000
namespace DL
open PySem PySem.Spec PyProof.Rows L2 TL
/-! ### a op b op c op d, as a test -/
def tChain3 (r r' r'' : R2) (ta tb tc td : TE) : TE := fun σ H Q => ta σ H fun x H1 => tb σ H1 fun y H2 => r x y H2 fun z H3 => ∃ k, z = .bl k ∧
  (if k = true then tc σ H3 fun u H4 => r' y u H4 fun z2 H5 => ∃ k2, z2 = .bl k2 ∧ (if k2 = true then td σ H5 fun w H6 => r'' u w H6 Q else Q (.bl false) H5) else Q (.bl false) H3)
section
variable {X : Cx} {pos : Pos} {a b c d : Expr} {ta tb tc td : TE}
theorem pt_chain3 {op op' op'' : CmpOp} {r r' r'' : R2} (ho : OpR X (compareOp op) r) (ho' : OpR X (compareOp op') r') (ho'' : OpR X (compareOp op'') r'') (ha : PE X a ta) (hb : PE X b tb) (hc : PE X c tc) (hd : PE X d td)
    (hm : lastMarks [op, op', op''] [b, c, d] = false := by with_unfolding_all rfl) : PT X (.Compare a [op, op', op''] [b, c, d] pos) (tTest (tChain3 r r' r'' ta tb tc td)) := by
  refine ⟨fun pins s σ H Q I h => ?_⟩
  refine isTrue_chain (thn (ha.run pins s σ H _ I h) fun v s1 ⟨x, H1, I1, r1, q1⟩ => test_link (thn (hb.run pins s1 σ H1 _ I1 q1) fun u s2 ⟨y, H2, I2, r2, q2⟩ =>
    thn (ho pins s2 σ H2 x y v u _ I2 r1 r2 q2) fun d s3 ⟨z, H3, I3, r3, k, e, q3⟩ => ?_)) hm
  subst e
  cases r3
  refine wpAny_truthy_bool ?_
  cases k with
  | false =>
    obtain ⟨k', e', q'⟩ := q3
    cases e'
    exact ite_ff ⟨H3, I3, q'⟩
  | true =>
    refine ite_tt (test_link (thn (hc.run pins s3 σ H3 _ I3 q3) fun w' s4 ⟨z', H4, I4, r4, q4⟩ => thn (ho' pins s4 σ H4 y z' u w' _ I4 r2 r4 q4) fun d' s5 ⟨z2, H5, I5, r5, k2, e2, q5⟩ => ?_))
    subst e2
    cases r5
    refine wpAny_truthy_bool ?_
    cases k2 with
    | false =>
      obtain ⟨k', e', q'⟩ := q5
      cases e'
      exact ite_ff ⟨H5, I5, q'⟩
    | true =>
      refine ite_tt (test_last (thn (hd.run pins s5 σ H5 _ I5 q5) fun w2 s6 ⟨z3, H6, I6, r6, q6⟩ => thn (ho'' pins s6 σ H6 z' z3 w' w2 _ I6 r4 r6 q6) fun d2 s7 ⟨z4, H7, I7, r7, k3, e3, q7⟩ => ?_))
      subst e3
      cases r7
      exact wpAny_truthy_bool ⟨H7, I7, q7⟩
end
section
variable {K : Kx} {ρ : List Sl} {o : Ob} {R : RD} {ta tb tc td : TE}
theorem xe_chain3 {r r' r'' : R2} (h : XE K ta ρ o fun a ρ1 o1 => XE K tb ρ1 o1 fun b ρ2 o2 => Kept ρ2 a ∧ XR K r a b ρ2 o2 fun c ρ3 o3 => ∃ k, c = .d (.bool k) ∧ (k = true → XE K tc ρ3 o3 fun d ρ4 o4 => Kept ρ4 b ∧ XR K r' b d ρ4 o4 fun c2 ρ5 o5 => ∃ k2, c2 = .d (.bool k2) ∧
      (k2 = true → XE K td ρ5 o5 fun f ρ6 o6 => Kept ρ6 d ∧ XR K r'' d f ρ6 o6 R) ∧ (k2 = false → R (.d (.bool false)) ρ5 o5) ∧ Kept ρ5 d) ∧ (k = false → R (.d (.bool false)) ρ3 o3) ∧ Kept ρ3 b) :
    XE K (tChain3 r r' r'' ta tb tc td) ρ o R := fun G σ H e Q q =>
  h.seq e fun x a ρ1 o1 G1 H1 r1 s1 e1 ok1 fr1 => XE.seq r1 e1 fun y b ρ2 o2 G2 H2 ⟨kp, r2⟩ s2 e2 ok2 fr2 =>
    r2 G2 σ H2 x y e2 (ok1.step s2 kp) ok2 _ fun z c ρ3 o3 G3 H3 ⟨k, hc, rt, rf, kb⟩ s3 e3 ok3 fr3 => by
      subst hc
      refine ⟨k, vok_bl ok3, ?_⟩
      have s123 := (s1.trans s2).trans s3
      cases k with
      | false => exact iteF (q _ _ _ _ _ _ (rf rfl) s123 e3 (.bl false) trivial)
      | true =>
        refine iteT ?_
        refine XE.seq (rt rfl) e3 fun u d ρ4 o4 G4 H4 ⟨kp4, r4⟩ s4 e4 ok4 fr4 => ?_
        refine r4 G4 σ H4 y u e4 ((ok2.step s3 kb).step s4 kp4) ok4 _ fun z2 c2 ρ5 o5 G5 H5 ⟨k2, hc2, rt2, rf2, kd⟩ s5 e5 ok5 fr5 => ?_
        subst hc2
        refine ⟨k2, vok_bl ok5, ?_⟩
        have s15 := (s123.trans s4).trans s5
        cases k2 with
        | false => exact iteF (q _ _ _ _ _ _ (rf2 rfl) s15 e5 (.bl false) trivial)
        | true =>
          refine iteT ?_
          refine XE.seq (rt2 rfl) e5 fun w f ρ6 o6 G6 H6 ⟨kp6, r6⟩ s6 e6 ok6 fr6 => ?_
          exact r6 G6 σ H6 u w e6 ((ok4.step s5 kd).step s6 kp6) ok6 Q fun v dv ρ7 o7 G7 H7 r s e ok fr => q _ _ _ _ _ _ r ((s15.trans s6).trans s) e ok (fr.back (s15.trans s6))
end
section
variable {K : Kx} {ρ : List Sl} {o : Ob} {N : RE}
theorem xgs_nilM (n : N ρ o) : XGs K gNil (([] : List PyData).map DV.d) ρ o N := xgs_nil n
end
/-! ### tests whose outcome is known -/
section
variable {A B C p : Prop} [Decidable p]
theorem bs_kt (h : p) (a : A) : (decide p = true → A) ∧ (decide p = false → B) := ⟨fun _ => a, fun z => absurd h (of_decide_eq_false z)⟩
theorem bs_kf (h : ¬ p) (b : B) : (decide p = true → A) ∧ (decide p = false → B) := ⟨fun z => absurd (of_decide_eq_true z) h, fun _ => b⟩
theorem bs_nkt (h : p) (b : B) : ((!decide p) = true → A) ∧ ((!decide p) = false → B) := ⟨fun z => absurd h (of_decide_eq_false (by simpa using z)), fun _ => b⟩
theorem bs_nkf (h : ¬ p) (a : A) : ((!decide p) = true → A) ∧ ((!decide p) = false → B) := ⟨fun _ => a, fun z => absurd (of_decide_eq_true (by simpa using z)) h⟩
theorem bs_kt3 (h : p) (c : C) (a : A) : (decide p = true → A) ∧ (decide p = false → B) ∧ C := ⟨fun _ => a, fun z => absurd h (of_decide_eq_false z), c⟩
theorem bs_kf3 (h : ¬ p) (c : C) (b : B) : (decide p = true → A) ∧ (decide p = false → B) ∧ C := ⟨fun z => absurd (of_decide_eq_true z) h, fun _ => b, c⟩
theorem bs_d3 (c : C) (a : p → A) (b : ¬ p → B) : (decide p = true → A) ∧ (decide p = false → B) ∧ C := ⟨fun z => a (of_decide_eq_true z), fun z => b (of_decide_eq_false z), c⟩
end
/-! ### a comprehension that changes nothing -/
section
variable {K : Kx} {ρ ρ1 : List Sl} {o o' : Ob} {R : RD} {te tl : TE} {tt : TT} {g : TG} {is : List Nat} {T : TA}
def LcOne (K : Kx) (tt : TT) (te : TE) (ρ1 : List Sl) (is : List Nat) (ds : List PyData) (o1 : Ob) (b : Bool) (d : PyData) : Prop :=
  XT K tt (blkE ρ1 is ds) o1 fun c ρ2 o2 => ρ2 = blkE ρ1 is ds ∧ o2 = o1 ∧ c = b ∧ (c = true → XEF K te (blkE ρ1 is ds) o1 fun dv ρ3 o3 => ρ3 = blkE ρ1 is ds ∧ o3 = o1 ∧ dv = .d d)
theorem xe_lcF {α : Type} (enc : α → PyData) (xs : List α) (p : α → Bool) (f : α → PyData) (h : XEF K tl ρ o fun dv ρ1 o1 => dv = .d (.list (xs.map enc)) ∧ NoOw ρ1 is ∧ xs.length < sizeLine ∧
      (∀ x ∈ xs, ∃ ds, BT K g is (enc x) ds ∧ LcOne K tt te ρ1 is ds o1 (p x) (f x)) ∧ R (.new (.lst ((xs.filter p).map f))) ρ1 o1) : XE K (tLc (iList K tl) g tt te is) ρ o R := by
  refine xe_lcL (XE.mono h fun dv ρ1 o1 ⟨hd, no, hl, one, r⟩ => ⟨xs.map enc, hd, no, fun k acc o' => o' = o1 ∧ acc = ((xs.take k).filter p).map f, ⟨rfl, rfl⟩, ?_, ?_⟩)
  · rintro k d acc o' hk hl2 ⟨rfl, rfl⟩
    obtain ⟨x, hx, rfl⟩ := map_get hk
    obtain ⟨ds, bt, t⟩ := one x (List.mem_of_getElem? hx)
    refine ⟨ds, bt, ?_⟩
    unfold LcTurn
    refine fun G σ H e Q q => t G σ H e Q fun b ρ2 o2 G2 H2 ⟨e1, e2, e3, r⟩ s e' => q b ρ2 o2 G2 H2 ?_ s e'
    subst e2
    refine ⟨e1, fun hb => XE.mono (r hb) fun dv ρ3 o3 ⟨f1, f2, f3⟩ => ⟨f1, _, f3, ?_⟩, fun hb => ?_⟩
    · have hlen : (((xs.take k).filter p).map f ++ [f x]).length ≤ xs.length := by
        have h1 := List.length_filter_le p (xs.take k)
        have h2 := (List.getElem?_eq_some_iff.mp hx).1
        rw [List.length_take] at h1
        rw [List.length_append, List.length_map, List.length_singleton]
        omega
      refine ⟨Nat.lt_of_le_of_lt hlen hl, f2, ?_⟩
      rw [take_snoc hx, List.filter_append, List.map_append, List.filter_cons_of_pos (by rw [← e3]; exact hb)]; rfl
    · refine ⟨rfl, ?_⟩
      rw [take_snoc hx, List.filter_append, List.map_append, List.filter_cons_of_neg (by rw [← e3, hb]; decide)]
      simp
  · rintro acc o' _ ⟨rfl, rfl⟩
    rw [List.length_map, List.take_length]
    exact r
end
/-! ### walks over a list or a tuple -/
def iSeq (K : PySem.W.Frag) (tl : TE) : TI := fun σ H R => iList K tl σ H R ∨ iTup K tl σ H R
theorem pi_seqK {X : Cx} {K : PySem.W.Frag} {tg e : Expr} {te : TE} (h : X.K = K) (he : PE X e te) : PI X tg e (iSeq K te) := by
  subst h
  refine ⟨fun pins s σ H R I q => ?_⟩
  rcases q with q | q
  · exact (pi_list he).run pins s σ H R I q
  · exact (pi_tup he).run pins s σ H R I q
section
variable {K : Kx} {ρ ρ1 : List Sl} {o o' : Ob} {R : RD} {N B C : RE} {te tl : TE} {tt : TT} {g : TG} {tb : TS} {is : List Nat}
theorem xs_seqL (h : XS K (tFor (iList K tl) g tb) ρ o N R B C) : XS K (tFor (iSeq K tl) g tb) ρ o N R B C := fun G σ H e D qn qr qb qc => .inl (h G σ H e D qn qr qb qc)
theorem xs_seqT (h : XS K (tFor (iTup K tl) g tb) ρ o N R B C) : XS K (tFor (iSeq K tl) g tb) ρ o N R B C := fun G σ H e D qn qr qb qc => .inr (h G σ H e D qn qr qb qc)
theorem xe_seqL (h : XE K (tLc (iList K tl) g tt te is) ρ o R) : XE K (tLc (iSeq K tl) g tt te is) ρ o R := fun G σ H e Q q => .inl (h G σ H e Q q)
theorem xe_seqT (h : XE K (tLc (iTup K tl) g tt te is) ρ o R) : XE K (tLc (iSeq K tl) g tt te is) ρ o R := fun G σ H e Q q => .inr (h G σ H e Q q)
/-- for over a list that stands -/
theorem xs_forT {tl : TE} {g : TG} {tb : TS} (h : XEF K tl ρ o fun dv ρ1 o1 => ∃ ds, dv = .d (.tuple ds) ∧ ∃ I : Nat → RE, I 0 ρ1 o1 ∧
      (∀ k d ρ' o', ds[k]? = some d → I k ρ' o' → XG K g (.d d) ρ' o' fun ρ2 o2 => XS K tb ρ2 o2 (I (k + 1)) R N (I (k + 1))) ∧ ∀ ρ' o', I ds.length ρ' o' → N ρ' o') : XS K (tFor (iTup K tl) g tb) ρ o N R B C := fun G σ H e D qn qr qb qc =>
  XE.seq h e fun v dv ρ1 o1 G1 H1 ⟨ds, hd, I, i0, it, ie⟩ s1 e1 ok fr => by
    subst hd
    cases ok with
    | @tup a xs _ hg hx =>
    refine ⟨a, rfl, ⟨xs, SqT.sub e1.wd.sub hg⟩, ?_⟩
    refine for_tup (xs := xs) (fun k σ' H' => ∃ ρ' o' G', I k ρ' o' ∧ Stp ρ σ o G H ρ' σ' o' G' H' ∧ En K o' ρ' G' σ' H' ∧ Sub G1 G') ⟨ρ1, o1, G1, i0, s1, e1, Sub.refl⟩ (fun k σ' H' _ ⟨ρ', o', G', _, _, e', sb⟩ => SqT.sub (sb.trans e'.wd.sub) hg) (fun k x σ' H' hk ⟨ρ', o', G', ik, s', e', sb⟩ => ?_) (fun σ' H' ⟨ρ', o', G', ik, s', e', sb⟩ => ?_)
    · obtain ⟨d, hd, rx⟩ := hx.get hk
      refine it k d ρ' o' hd ik G' σ' H' x e' (Rp.sub sb rx) _ fun ρ2 o2 G2 σ2 H2 r s2 e2 => ?_
      have s12 := s'.trans s2
      exact r G2 σ2 H2 e2 _ (fun _ _ _ _ _ n s e => ⟨_, _, _, n, s12.trans s, e, sb.trans (s2.g.trans s.g)⟩) (fun _ _ _ _ _ _ _ n s e ok fr => qr _ _ _ _ _ _ _ n (s12.trans s) e ok (fr.back s12))
        (fun _ _ _ _ _ n s e => qn _ _ _ _ _ n (s12.trans s) e) (fun _ _ _ _ _ n s e => ⟨_, _, _, n, s12.trans s, e, sb.trans (s2.g.trans s.g)⟩)
    · rw [hx.len] at ik
      exact qn _ _ _ _ _ (ie _ _ ik) s' e'
/-- [e for .. in xs if t] -/
theorem xe_lcT {tl : TE} (h : XEF K tl ρ o fun dv ρ1 o1 => ∃ es, dv = .d (.tuple es) ∧ NoOw ρ1 is ∧ ∃ I : Nat → List PyData → Ob → Prop, I 0 [] o1 ∧
      (∀ k d acc o', es[k]? = some d → acc.length < sizeLine → I k acc o' → ∃ ds, BT K g is d ds ∧ LcTurn K tt te ρ1 is ds o' fun y o2 => match y with | some d => (acc ++ [d]).length < sizeLine ∧ I (k + 1) (acc ++ [d]) o2 | none => I (k + 1) acc o2) ∧
      ∀ acc o', acc.length < sizeLine → I es.length acc o' → R (.new (.lst acc)) ρ1 o') : XE K (tLc (iTup K tl) g tt te is) ρ o R := fun G σ H e0 Q q =>
  h G σ H e0 _ fun v dv ρ1 o1 G1 H1 ⟨es, hd, no, I, i0, it, ie⟩ s1 e1 okl _ => by
    subst hd
    cases okl with
    | @tup a ys _ hg hx =>
    refine ⟨a, rfl, ⟨ys, SqT.sub e1.wd.sub hg⟩, fun D hD => ?_⟩
    have fr := s1.old (.inl hD)
    refine lc_tup (xs := ys) (fun k H' => LcP K (I k) ρ σ o G H ρ1 G1 D H') (lc_start i0 s1 e1 hD) (fun k H' _ p => ?_) (fun k x H' hk p => ?_) fun H' p => ?_
    · obtain ⟨acc, o', G', xs, i, s, e, hD', gD, nf, nw, ok, hl, sb⟩ := p
      exact SqT.sub (sb.trans e.wd.sub) hg
    · obtain ⟨acc, o', G', xs, i, s, e, hD', gD, nf, nw, ok, hl, sb⟩ := p
      obtain ⟨d, hd, rx⟩ := hx.get hk
      obtain ⟨ds, bt, turn⟩ := it k d acc o' hd hl i
      exact lc_turn (I := I k) (I' := I (k + 1)) bt no fr s e hD' gD nf nw ok sb (Rp.sub sb rx) hl e0.wo turn
    · rw [hx.len] at p
      exact lc_end fr q ie p
theorem xe_lcFT {α : Type} (enc : α → PyData) (xs : List α) (p : α → Bool) (f : α → PyData) (h : XEF K tl ρ o fun dv ρ1 o1 => dv = .d (.tuple (xs.map enc)) ∧ NoOw ρ1 is ∧ xs.length < sizeLine ∧
      (∀ x ∈ xs, ∃ ds, BT K g is (enc x) ds ∧ LcOne K tt te ρ1 is ds o1 (p x) (f x)) ∧ R (.new (.lst ((xs.filter p).map f))) ρ1 o1) : XE K (tLc (iTup K tl) g tt te is) ρ o R := by
  refine xe_lcT (XE.mono h fun dv ρ1 o1 ⟨hd, no, hl, one, r⟩ => ⟨xs.map enc, hd, no, fun k acc o' => o' = o1 ∧ acc = ((xs.take k).filter p).map f, ⟨rfl, rfl⟩, ?_, ?_⟩)
  · rintro k d acc o' hk hl2 ⟨rfl, rfl⟩
    obtain ⟨x, hx, rfl⟩ := map_get hk
    obtain ⟨ds, bt, t⟩ := one x (List.mem_of_getElem? hx)
    refine ⟨ds, bt, ?_⟩
    unfold LcTurn
    refine fun G σ H e Q q => t G σ H e Q fun b ρ2 o2 G2 H2 ⟨e1, e2, e3, r⟩ s e' => q b ρ2 o2 G2 H2 ?_ s e'
    subst e2
    refine ⟨e1, fun hb => XE.mono (r hb) fun dv ρ3 o3 ⟨f1, f2, f3⟩ => ⟨f1, _, f3, ?_⟩, fun hb => ?_⟩
    · have hlen : (((xs.take k).filter p).map f ++ [f x]).length ≤ xs.length := by
        have h1 := List.length_filter_le p (xs.take k)
        have h2 := (List.getElem?_eq_some_iff.mp hx).1
        rw [List.length_take] at h1
        rw [List.length_append, List.length_map, List.length_singleton]
        omega
      refine ⟨Nat.lt_of_le_of_lt hlen hl, f2, ?_⟩
      rw [take_snoc hx, List.filter_append, List.map_append, List.filter_cons_of_pos (by rw [← e3]; exact hb)]; rfl
    · refine ⟨rfl, ?_⟩
      rw [take_snoc hx, List.filter_append, List.map_append, List.filter_cons_of_neg (by rw [← e3, hb]; decide)]
      simp
  · rintro acc o' _ ⟨rfl, rfl⟩
    rw [List.length_map, List.take_length]
    exact r
end
/-! ### tuple(..), list(..), extend -/
section
variable {K : Kx} {ρ : List Sl} {o : Ob} {R : RD} {i : Nat}
theorem xc_tupL {dv : DV} {ds : List PyData} (l : IsL ρ dv ds) (r : R (.d (.tuple ds)) ρ o) : XC K (fun xs H Q => ∃ p ys, xs = [V.ref p] ∧ ((SqL K H p ys ∧ ∀ l, H l = none → Q (.ref l) (upd H l (.tup ys))) ∨ (SqT K H p ys ∧ Q (.ref p) H))) [dv] ρ o R := fun G σ H vs e h0 Q q => by
  obtain ⟨v, rfl, h⟩ := va1 h0
  obtain ⟨p, xs, rfl, hp, ok⟩ := l.at e h
  exact ⟨p, xs, rfl, .inl ⟨.inl (.inl hp), xq_tup q e r ok⟩⟩
theorem xc_lstL {dv : DV} {ds : List PyData} (l : IsL ρ dv ds) (r : R (.new (.lst ds)) ρ o) : XC K (fun xs H Q => ∃ p ys, xs = [V.ref p] ∧ (SqL K H p ys ∨ SqT K H p ys) ∧ ∀ l, H l = none → Q (.ref l) (upd H l (.lst ys))) [dv] ρ o R := fun G σ H vs e h0 Q q => by
  obtain ⟨v, rfl, h⟩ := va1 h0
  obtain ⟨p, xs, rfl, hp, ok⟩ := l.at e h
  exact ⟨p, xs, rfl, .inl (.inl (.inl hp)), xq_new q e r ok⟩
theorem xc_lstT {ds : List PyData} (r : R (.new (.lst ds)) ρ o) : XC K (fun xs H Q => ∃ p ys, xs = [V.ref p] ∧ (SqL K H p ys ∨ SqT K H p ys) ∧ ∀ l, H l = none → Q (.ref l) (upd H l (.lst ys))) [.d (.tuple ds)] ρ o R := fun G σ H vs e h0 Q q => by
  obtain ⟨v, rfl, h⟩ := va1 h0
  cases h with
  | @tup a xs _ hs ok => exact ⟨a, xs, rfl, .inr (SqT.sub e.wd.sub hs), xq_new q e r ok⟩
theorem xm_extend {ds es : List PyData} {b : DV} (lb : IsL ρ b es) (nb : ∀ c, b ≠ .sl i c) (c : ds.length + es.length ≤ sizeLine) (h : ρ[i]? = some (.own (.lst ds))) (r : R (.d .none) (ρ.set i (.own (.lst (ds ++ es)))) o) : XM K rExtend (.sl i (.lst ds)) [b] ρ o R := fun G σ H x vs e hx hv0 Q q => by
  obtain ⟨v, rfl, hv⟩ := va1 hv0
  obtain ⟨b', ys, rfl, hb, okb⟩ := lb.at e hv
  obtain ⟨p, y, k1, g1, h1, ok, nf⟩ := e.own_at hx.2
  have hs := hx.1
  rw [k1] at hs
  cases hs
  obtain ⟨xs, rfl⟩ : ∃ xs, y = .lst xs := by cases y <;> first | exact ⟨_, rfl⟩ | exact ok.elim
  have ok : RpAll K G xs ds := ok
  have ok2 : COk K G (.lst (xs ++ ys)) (.lst (ds ++ es)) := ok.append okb
  exact ⟨p, b', xs, ys, rfl, rfl, h1, hb, by rw [ok.len, okb.len]; exact c, q _ _ _ _ _ _ r (e.mut hx.2 k1 ok2).2 (e.mut hx.2 k1 ok2).1 .non trivial⟩
end
theorem ki_dict_non : kitB (tyN .none) "dict" = some false := by decide +kernel
theorem ki_dict_bool {b : Bool} : kitB (tyN (.bool b)) "dict" = some false := by show kitB "bool" "dict" = _; decide +kernel
theorem ki_dict_int {b : Int} : kitB (tyN (.int b)) "dict" = some false := by show kitB "int" "dict" = _; decide +kernel
theorem ki_dict_str {b : Str} : kitB (tyN (.str b)) "dict" = some false := by show kitB "str" "dict" = _; decide +kernel
/-! ### copies -/
inductive SmC : Nat → PyData → Prop where
  | non {n : Nat} : SmC n .none
  | bl {n : Nat} {b : Bool} : SmC n (.bool b)
  | int {n : Nat} {b : Int} : SmC n (.int b)
  | str {n : Nat} {b : Str} : SmC n (.str b)
  | tup {n : Nat} {ds : List PyData} (l : ds.length < 16777216) (h : ∀ d ∈ ds, SmC n d) : SmC (n + 1) (.tuple ds)
  | lst {n : Nat} {ds : List PyData} (l : ds.length < 16777216) (h : ∀ d ∈ ds, SmC n d) : SmC (n + 1) (.list ds)
def cpR : PyData → DV
  | .list ds => .new (.lst ds)
  | d => .d d
def S__law_copy (n : Nat) (_ : PySem.W.Frag) : DS := fun dvs o R X => ∃ d, dvs = [.d d] ∧ SmC n d ∧ R (cpR d) o
theorem fz_cp {ρ : List Sl} {o : Ob} {R : RD} {d : PyData} (h : R (.d d) ρ o) : FzR R (cpR d) ρ o := by
  cases d <;> exact h
theorem filterAll {α : Type} (l : List α) : l.filter (fun _ => true) = l := by simp
end DL

set_option Elab.async false
set_option linter.all false
set_option maxRecDepth 100000
namespace DL
open PySem PySem.Spec PyProof.Rows L2 TL
/-! ### raise -/
def tRaiseC (C : Addr) (W : WX) : TS := fun _ σ H => W (.ref C) none σ H
theorem ps_raiseC {X : Cx} {W : WX} {e : Expr} {C : Addr} {pos : Pos} (hc : X.calm = true) (tk : Takes X W) (he : PMk X e (fun _ H Q => Q (.ref C) none H)) : PS X (.Raise (some e) none pos) (tRaiseC C W) := ps_raise hc tk he
section
variable {K : Kx} {ρ : List Sl} {o : Ob} {R : RD} {N B C : RE} {E : Addr}
theorem xs_raiseC (h : K.Z (.ref E, none) ρ o) : XS K (tRaiseC E K.W) ρ o N R B C := fun G σ H e D qn qr qb qc =>
  e.wo (.ref E) none none ρ o G σ H h Stp.refl e.toEnB trivial
end
/-! ### a name is gone -/
section
variable {K : Kx} {ρ : List Sl} {σ : L2.St} {o : Ob} {G H : Hp}
theorem En.unset (e : En K o ρ G σ H) {i : Nat} (hi : i < ρ.length) : En K o (ρ.set i .no) G (σ.set i none) H ∧ Stp ρ σ o G H (ρ.set i .no) (σ.set i none) o G H := by
  have hσ : i < σ.length := by rw [e.len]; exact hi
  have back : ∀ j q, OwnAt (ρ.set i .no) (σ.set i none) j q → OwnAt ρ σ j q := fun j q ⟨⟨c, hc⟩, hs'⟩ => by
    by_cases hj : j = i
    · subst hj
      rw [List.getElem?_set_self hi] at hc
      cases hc
    · rw [List.getElem?_set_ne (Ne.symm hj)] at hc hs'
      exact ⟨⟨c, hc⟩, hs'⟩
  have stp : Stp ρ σ o G H (ρ.set i .no) (σ.set i none) o G H := ⟨Sub.refl, fun _ _ h _ _ => h, fun _ h _ _ _ => h, fun _ h => .inl h, fun a ⟨j, hq⟩ => .inl ⟨j, back j a hq⟩⟩
  refine ⟨⟨⟨e.wd, by simpa using e.len, fun j s' hj => ?_, fun j k q a b => e.dis j k q (back j q a) (back k q b), fun q ⟨j, hq⟩ => e.onf q ⟨j, back j q hq⟩⟩, e.wo.step stp⟩, stp⟩
  by_cases hji : j = i
  · subst hji
    rw [List.getElem?_set_self hi] at hj
    cases hj
    exact ⟨_, List.getElem?_set_self hσ, trivial⟩
  · rw [List.getElem?_set_ne (Ne.symm hji)] at hj
    obtain ⟨ov, k1, k2⟩ := e.sl j s' hj
    exact ⟨ov, by rw [List.getElem?_set_ne (Ne.symm hji)]; exact k1, k2⟩
end
/-! ### try .. except -/
def tTryAs (K : PySem.W.Frag) (c : Value) (i : Nat) (tb : WX → TS) (ts : Addr → Value → Option Addr → TS) (Wout : WX) : TS := fun D σ H => tb (wAs K c i ts Wout D) D σ H
def tTryOnly (K : PySem.W.Frag) (c : Value) (tb : WX → TS) (ts : Addr → Value → Option Addr → TS) (Wout : WX) : TS := fun D σ H => tb (wOnly K c ts Wout D) D σ H
section
variable {X : Cx} {K : PySem.W.Frag} {x n : Str} {c : Value} {i : Nat} {body suite : List Stmt} {b₀ : Stmt} {np pos pos' : Pos} {tb : WX → TS} {ts : Addr → Value → Option Addr → TS} {Wout : WX}
theorem ps_tryAs (hK : X.K = K) (hs : X.stack = X.env :: X.outer) (hf : X.env.frame = some X.env.locals) (hN : X.N.Nodup) (hi : X.N[i]? = some n) (hln : X.env.kindOf n = some .local) (hc : Names X x c) (tk : Takes X Wout)
    (hb : ∀ (W : WX) (pn : List (Addr × Obj)) (xe : Value → Shared → Prop), Takes (X.tr pn xe) W → PassesOwn (model X.prog X.w) X.A X.env xe → PSs (X.tr pn xe) body (tb W))
    (hsu : ∀ (a : Addr) (oe : Obj) (cls : Value) (d : Option Addr) (pn : List (Addr × Obj)), Zc cls d oe → (∃ vs, oe.data = .fields vs) → PSs (X.suite a ((a, oe) :: pn)) (b₀ :: suite) (ts a cls d)) :
    PS X (.Try body [.ExceptHandler (some (.Name x np)) (some n) (b₀ :: suite) pos'] [] [] pos) (tTryAs K c i tb ts Wout) := by
  subst hK
  exact ps_try_as hs hf hN hi hln hc tk hb hsu
theorem ps_tryOnly (hK : X.K = K) (hs : X.stack = X.env :: X.outer) (hf : X.env.frame = some X.env.locals) (hc : Names X x c) (tk : Takes X Wout)
    (hb : ∀ (W : WX) (pn : List (Addr × Obj)) (xe : Value → Shared → Prop), Takes (X.tr pn xe) W → PassesOwn (model X.prog X.w) X.A X.env xe → PSs (X.tr pn xe) body (tb W))
    (hsu : ∀ (a : Addr) (oe : Obj) (cls : Value) (d : Option Addr) (pn : List (Addr × Obj)), Zc cls d oe → (∃ vs, oe.data = .fields vs) → PSs (X.suite a ((a, oe) :: pn)) (b₀ :: suite) (ts a cls d)) :
    PS X (.Try body [.ExceptHandler (some (.Name x np)) none (b₀ :: suite) pos'] [] [] pos) (tTryOnly K c tb ts Wout) := by
  subst hK
  exact ps_try_only hs hf hc tk hb hsu
end
section
variable {K : Kx} {ρ : List Sl} {o : Ob} {R : RD} {N B C : RE} {c : Value} {i : Nat} {tb : WX → TS} {ts : Addr → Value → Option Addr → TS}
/-- Z: what is known where the body raises -/
theorem xs_tryOnly (Z : Ex → RE) (hb : ∀ W : WX, XS ⟨K.K, W, Z⟩ (tb W) ρ o N R B C) (hs : ∀ cls fs ρ' o', Z (cls, fs) ρ' o' → ∃ b, PySem.W.exmOne K cls c = some b ∧
      (b = true → ∀ a d, (d = none ↔ fs = none) → XS K (ts a cls d) ρ' o' N R B C) ∧ (b = false → K.Z (cls, fs) ρ' o')) : XS K (tTryOnly K c tb ts K.W) ρ o N R B C := fun G σ H e D qn qr qb qc => by
  have wo : WOk ⟨K.K, wOnly K.K c ts K.W D, Z⟩ o ρ G σ H := fun cls fs d ρ' o' G' σ' H' z s e' ek => by
    obtain ⟨b, hb, ht, hf⟩ := hs cls fs ρ' o' z
    have dn : d = none ↔ fs = none := by cases d <;> cases fs <;> simp_all [EOk]
    refine ⟨b, hb, fun h a _ => ?_, fun h => e.wo cls fs d ρ' o' G' σ' H' (hf h) s e' ek⟩
    exact ht h a d dn G' σ' H' ⟨e', e.wo.step s⟩ D (fun _ _ _ _ _ n s2 e2 => qn _ _ _ _ _ n (s.trans s2) e2) (fun _ _ _ _ _ _ _ n s2 e2 ok fr => qr _ _ _ _ _ _ _ n (s.trans s2) e2 ok (fr.back s)) (fun _ _ _ _ _ n s2 e2 => qb _ _ _ _ _ n (s.trans s2) e2) (fun _ _ _ _ _ n s2 e2 => qc _ _ _ _ _ n (s.trans s2) e2)
  have up : ∀ {ρ' o' G' σ' H'}, Stp ρ σ o G H ρ' σ' o' G' H' → En ⟨K.K, wOnly K.K c ts K.W D, Z⟩ o' ρ' G' σ' H' → En K o' ρ' G' σ' H' := fun s e' => ⟨e'.toEnB, e.wo.step s⟩
  exact hb _ G σ H ⟨e.toEnB, wo⟩ D (fun _ _ _ _ _ n s e => qn _ _ _ _ _ n s (up s e)) (fun _ _ _ _ _ _ _ n s e ok fr => qr _ _ _ _ _ _ _ n s (up s e) ok fr) (fun _ _ _ _ _ n s e => qb _ _ _ _ _ n s (up s e)) (fun _ _ _ _ _ n s e => qc _ _ _ _ _ n s (up s e))
theorem xs_tryAs (Z : Ex → RE) (hb : ∀ W : WX, XS ⟨K.K, W, Z⟩ (tb W) ρ o N R B C) (hs : ∀ cls fs ρ' o', Z (cls, fs) ρ' o' → ∃ b, PySem.W.exmOne K cls c = some b ∧
      (b = true → ∀ a d, (d = none ↔ fs = none) → Nat.blt i ρ'.length = true ∧ XS K (ts a cls d) (ρ'.set i (.raw (.ref a))) o' (fun ρ2 o2 => Nat.blt i ρ2.length = true ∧ N (ρ2.set i .no) o2) R (fun ρ2 o2 => Nat.blt i ρ2.length = true ∧ B (ρ2.set i .no) o2) (fun ρ2 o2 => Nat.blt i ρ2.length = true ∧ C (ρ2.set i .no) o2)) ∧ (b = false → K.Z (cls, fs) ρ' o')) :
    XS K (tTryAs K c i tb ts K.W) ρ o N R B C := fun G σ H e D qn qr qb qc => by
  have wo : WOk ⟨K.K, wAs K.K c i ts K.W D, Z⟩ o ρ G σ H := fun cls fs d ρ' o' G' σ' H' z s e' ek => by
    obtain ⟨b, hb, ht, hf⟩ := hs cls fs ρ' o' z
    have dn : d = none ↔ fs = none := by cases d <;> cases fs <;> simp_all [EOk]
    refine ⟨b, hb, fun h a _ => ?_, fun h => e.wo cls fs d ρ' o' G' σ' H' (hf h) s e' ek⟩
    obtain ⟨hl, x⟩ := ht h a d dn
    obtain ⟨e3, s3⟩ := En.store (K := K) ⟨e', e.wo.step s⟩ (lt_of_blt hl) (v := .ref a) (s := .raw (.ref a)) rfl (fun c z => nomatch z)
    have s03 := s.trans s3
    exact x G' _ H' e3 _ (fun _ _ _ _ _ ⟨hl, n⟩ s2 e2 => qn _ _ _ _ _ n ((s03.trans s2).trans (e2.unset (lt_of_blt hl)).2) (e2.unset (lt_of_blt hl)).1) (fun _ _ _ _ _ _ _ n s2 e2 ok fr => qr _ _ _ _ _ _ _ n (s03.trans s2) e2 ok (fr.back s03))
      (fun _ _ _ _ _ ⟨hl, n⟩ s2 e2 => qb _ _ _ _ _ n ((s03.trans s2).trans (e2.unset (lt_of_blt hl)).2) (e2.unset (lt_of_blt hl)).1) (fun _ _ _ _ _ ⟨hl, n⟩ s2 e2 => qc _ _ _ _ _ n ((s03.trans s2).trans (e2.unset (lt_of_blt hl)).2) (e2.unset (lt_of_blt hl)).1)
  have up : ∀ {ρ' o' G' σ' H'}, Stp ρ σ o G H ρ' σ' o' G' H' → En ⟨K.K, wAs K.K c i ts K.W D, Z⟩ o' ρ' G' σ' H' → En K o' ρ' G' σ' H' := fun s e' => ⟨e'.toEnB, e.wo.step s⟩
  exact hb _ G σ H ⟨e.toEnB, wo⟩ D (fun _ _ _ _ _ n s e => qn _ _ _ _ _ n s (up s e)) (fun _ _ _ _ _ _ _ n s e ok fr => qr _ _ _ _ _ _ _ n s (up s e) ok fr) (fun _ _ _ _ _ n s e => qb _ _ _ _ _ n s (up s e)) (fun _ _ _ _ _ n s e => qc _ _ _ _ _ n s (up s e))
end
/-! ### isinstance of the caught error -/
/-- e the error that the suite holds -/
def rIsEx (K : PySem.W.Frag) (cls : Value) (d : Option Addr) (a : Addr) : List V → Hp → VK → Prop := fun xs H Q => ∃ (D : Addr) (c : V) (cv : Value) (b : Bool), cls = .ref D ∧ d = none ∧ ExcC K D ∧ xs = [.ref a, c] ∧ (∀ u, RelV c u → u = cv) ∧ PySem.W.kitOne K (.ref D) cv = some b ∧ Q (.bl b) H
theorem call_isEx {X : Cx} {K : PySem.W.Frag} {a : Addr} {cls : Value} {d : Option Addr} {oe : Obj} {pn : List (Addr × Obj)} (hK : X.K = K) (hz : Zc cls d oe) (hf : ∃ vs, oe.data = .fields vs) : CallR (X.suite a ((a, oe) :: pn)) (.builtin "isinstance") (rIsEx K cls d a) := by
  subst hK
  intro pins s σ H xs us Q I r h
  obtain ⟨D, c, cv, b, rfl, rfl, C, rest⟩ := h
  exact call_isE C hz hf pins s σ H xs us Q I r ⟨c, cv, b, rest⟩
section
variable {K : Kx} {ρ : List Sl} {o : Ob} {R : RD} {D a : Addr} {cls : Value} {d : Option Addr}
theorem xc_isExT {n : String} {b : Bool} (hc : cls = .ref D) (hd : d = none) (C : ExcC K D) (h : PySem.W.kitOne K (.ref D) (.type n) = some b) (r : R (.d (.bool b)) ρ o) : XC K (rIsEx K cls d a) [.raw (.ref a), .raw (.ty n)] ρ o R := fun G σ H vs e h0 Q q => by
  obtain ⟨v, u, rfl, h1, h2⟩ := va2 h0
  have h1 : v = .ref a := h1
  have h2 : u = .ty n := h2
  subst h1 h2
  exact ⟨D, _, _, b, hc, hd, C, rfl, fun u r => r, h, xq_now q e r (.bl _)⟩
theorem xc_isExR {E : Addr} {b : Bool} (hc : cls = .ref D) (hd : d = none) (C : ExcC K D) (h : PySem.W.kitOne K (.ref D) (.ref E) = some b) (r : R (.d (.bool b)) ρ o) : XC K (rIsEx K cls d a) [.raw (.ref a), .raw (.ref E)] ρ o R := fun G σ H vs e h0 Q q => by
  obtain ⟨v, u, rfl, h1, h2⟩ := va2 h0
  have h1 : v = .ref a := h1
  have h2 : u = .ref E := h2
  subst h1 h2
  exact ⟨D, _, _, b, hc, hd, C, rfl, fun u r => r, h, xq_now q e r (.bl _)⟩
end
/-! ### classes of errors by their names -/
def ExN (K : PySem.W.Frag) (x : Str) (ex : Ex) : Prop := PySem.W.nsIn K mainGlobals x = some (some ex.1) ∧ ex.2 = none
theorem passA {X : Cx} {σ : L2.St} : PassesAt (L2.CX X.prog X.w) X σ (WE (fun _ _ _ _ => False) σ) := fun _ _ _ _ _ _ h => by
  obtain ⟨_, _, _, _, _, _, _, _, _, _, _, _, z⟩ := h
  exact z.elim
theorem kit_ref {K : PySem.W.Frag} {t : Value} {C : Addr} (hd : PySem.W.hasDictIn K C = true) (ht : PySem.W.typeIn K (.ref C) = some (.type "type")) (hs : PySem.W.subIn K t (.ref C) = some true) : PySem.W.kitOne K t (.ref C) = some true := by
  obtain ⟨cd, hc, _⟩ := PySem.W.any_some hd
  unfold PySem.W.kitOne PySem.W.kitCls
  split
  · rfl
  · have e2 : ((PySem.W.clsIn K C).isSome && PySem.W.typeIn K (.ref C) == some (.type "type")) = true := by rw [hc, ht] <;> rfl
    show (if ((PySem.W.clsIn K C).isSome && PySem.W.typeIn K (.ref C) == some (.type "type")) = true then PySem.W.subIn K t (.ref C) else none) = some true
    rw [if_pos e2]
    exact hs
theorem kit_typ {K : PySem.W.Frag} {C : Addr} {n : String} (hm : PySem.W.kitMeta n = true) (hs : PySem.W.subIn K (.ref C) (.type n) = some true) : PySem.W.kitOne K (.ref C) (.type n) = some true := by
  unfold PySem.W.kitOne PySem.W.kitCls
  split
  · rfl
  · show (if PySem.W.kitMeta n = true then PySem.W.subIn K (.ref C) (.type n) else none) = some true
    rw [if_pos hm]
    exact hs
/-! ### a text times a number -/
def rRepS : R2 := fun x y H Q => ∃ (z : Str) (k : Int), x = .str z ∧ y = .int k ∧ 1 ≤ k ∧ k < 2 ^ 62 ∧ z.length * k.toNat ≤ sizeLine ∧ ∀ r : Str, tl r = (List.replicate k.toNat (tl z)).flatten → Q (.str r) H
theorem foldl_app (l : Array Nat) : ∀ (m : Nat) (a : Array Nat), ((List.replicate m l).foldl (fun x y => x ++ y) a).toList = a.toList ++ (List.replicate m l.toList).flatten
  | 0, a => by simp
  | m + 1, a => by
    rw [List.replicate_succ, List.foldl_cons, foldl_app l m, List.replicate_succ, List.flatten_cons, Array.toList_append, List.append_assoc]
theorem op_repS {X : Cx} : OpR X (binaryOp .Mult) rRepS := by
  intro pins s σ H x y v u Q I rx ry h
  obtain ⟨z, k, rfl, rfl, h1, h2, hz, q⟩ := h
  obtain ⟨t, rfl⟩ := rx
  obtain ⟨t', rfl⟩ := ry
  have hs : sizeLine = 16777216 := sizeLine_eq
  refine PySem.P.mul_str ?_ (fun _ h => ?_) (fun _ _ => ?_) ?_
  · rw [decide_eq_false (by omega), decide_eq_false (by omega)]; rfl
  · have hk : k ≠ 1 := fun e => by rw [e] at h; simp at h
    have hz0 : z.length ≠ 0 := fun e => by rw [e] at h; simp at h
    intro hgt
    have hle : (z.length : Int) * k ≤ 16777216 := by
      have : (z.length : Int) * (k.toNat : Int) ≤ 16777216 := by
        have := Int.ofNat_le.mpr hz
        rw [hs] at this
        simpa using this
      rwa [Int.toNat_of_nonneg (by omega)] at this
    have := Int.lt_mul_of_ediv_lt (by omega : (0 : Int) < k) hgt
    omega
  · show decide _ = false
    exact decide_eq_false (by
      show ¬ sizeLine < z.length * k.toNat
      omega)
  · rw [if_neg (by omega)]
    split
    · rename_i h
      have : tl z = (List.replicate k.toNat (tl z)).flatten := by
        by_cases hk : k = 1
        · subst hk; simp
        · have hz0 : z.length = 0 := by simpa [hk] using h
          have : tl z = [] := List.eq_nil_of_length_eq_zero (by rw [← len_tl]; exact hz0)
          rw [this]
          induction k.toNat with
          | zero => rfl
          | succ n ih => rw [List.replicate_succ, List.flatten_cons, ← ih]; rfl
      exact ⟨.str z, H, I, ⟨t, rfl⟩, q z this⟩
    · have e : tl (⟨(List.replicate k.toNat z.cps).foldl (· ++ ·) #[]⟩ : Str) = (List.replicate k.toNat (tl z)).flatten := by
        show (List.foldl (fun x y => x ++ y) #[] (List.replicate k.toNat z.cps)).toList = _
        rw [foldl_app]; rfl
      refine ⟨?_, .str _, H, I.tok _, ⟨_, rfl⟩, q _ e⟩
      rw [len_tl, e, List.length_flatten]
      simp only [List.map_replicate, List.sum_replicate_nat]
      rw [← len_tl, Nat.mul_comm]
      exact hz
section
variable {K : Kx} {ρ : List Sl} {o : Ob} {R : RD}
theorem xr_repS {z : Str} {k : Int} (h1 : 1 ≤ k) (h2 : k < 2 ^ 62) (h3 : z.length * k.toNat ≤ sizeLine) (r : ∀ s : Str, tl s = (List.replicate k.toNat (tl z)).flatten → R (.d (.str s)) ρ o) : XR K rRepS (.d (.str z)) (.d (.int k)) ρ o R := fun G σ H x y e k1 k2 Q q =>
  ⟨z, k, vok_str k1, vok_int k2, h1, h2, h3, fun s hs => xq_now q e (r s hs) (.str _)⟩
end
/-! ### is True, is False -/
def rIsB : R2 := fun x y H Q => ∃ i j : Bool, x = .bl i ∧ y = .bl j ∧ Q (.bl (i == j)) H
def rNotB : R2 := fun x y H Q => ∃ i j : Bool, x = .bl i ∧ y = .bl j ∧ Q (.bl (!(i == j))) H
theorem op_isB {X : Cx} : OpR X (compareOp .Is) rIsB := by
  intro pins s σ H x y v u Q I rx ry h
  obtain ⟨i, j, rfl, rfl, q⟩ := h
  cases rx
  cases ry
  exact wpAny_is_plain (by cases i <;> cases j <;> rfl) ⟨.bl (i == j), H, I, by cases i <;> cases j <;> rfl, q⟩
theorem op_isnotB {X : Cx} : OpR X (compareOp .IsNot) rNotB := by
  intro pins s σ H x y v u Q I rx ry h
  obtain ⟨i, j, rfl, rfl, q⟩ := h
  cases rx
  cases ry
  exact wpAny_isNot_plain (by cases i <;> cases j <;> rfl) ⟨.bl (!(i == j)), H, I, by cases i <;> cases j <;> rfl, q⟩
section
variable {K : Kx} {ρ : List Sl} {o : Ob} {R : RD}
theorem xr_isB {i j : Bool} (r : R (.d (.bool (i == j))) ρ o) : XR K rIsB (.d (.bool i)) (.d (.bool j)) ρ o R := fun G σ H x y e k1 k2 Q q => ⟨i, j, vok_bl k1, vok_bl k2, xq_now q e r (.bl _)⟩
theorem xr_notB {i j : Bool} (r : R (.d (.bool (!(i == j)))) ρ o) : XR K rNotB (.d (.bool i)) (.d (.bool j)) ρ o R := fun G σ H x y e k1 k2 Q q => ⟨i, j, vok_bl k1, vok_bl k2, xq_now q e r (.bl _)⟩
end
end DL

set_option Elab.async false
set_option linter.all false
set_option maxRecDepth 100000
namespace DL
open PySem PySem.Spec PyProof.Rows L2 TL
/-! ### two objects side by side -/
def Ob.and (A B : Ob) : Ob where
  fp := fun a => A.fp a ∨ B.fp a
  ok := fun G H => A.ok G H ∧ B.ok G H ∧ (∀ a, A.fp a → ¬ B.fp a)
  st := fun G H G' H' ⟨h1, h2, h3⟩ s h => ⟨A.st G H G' H' h1 s fun a ha => h a (.inl ha), B.st G H G' H' h2 s fun a ha => h a (.inr ha), h3⟩
theorem and_comm_le {A B : Ob} : Ob.le (A.and B) (B.and A) := ⟨fun a => Or.comm, fun G H ⟨h1, h2, h3⟩ => ⟨h2, h1, fun a hb ha => h3 a ha hb⟩⟩
theorem and_assoc_le {A B C : Ob} : Ob.le ((A.and B).and C) (A.and (B.and C)) := ⟨fun a => by show A.fp a ∨ B.fp a ∨ C.fp a ↔ (A.fp a ∨ B.fp a) ∨ C.fp a; exact (or_assoc).symm,
  fun G H ⟨⟨h1, h2, h3⟩, h4, h5⟩ => ⟨h1, ⟨h2, h4, fun a hb => h5 a (.inr hb)⟩, fun a ha hbc => hbc.elim (h3 a ha) (h5 a (.inl ha))⟩⟩
theorem and_assoc_le' {A B C : Ob} : Ob.le (A.and (B.and C)) ((A.and B).and C) := ⟨fun a => by show (A.fp a ∨ B.fp a) ∨ C.fp a ↔ A.fp a ∨ B.fp a ∨ C.fp a; exact or_assoc,
  fun G H ⟨h1, ⟨h2, h4, h5⟩, h3⟩ => ⟨⟨h1, h2, fun a ha hb => h3 a ha (.inl hb)⟩, h4, fun a hab hc => hab.elim (fun ha => h3 a ha (.inr hc)) fun hb => h5 a hb hc⟩⟩
theorem Ob.le.refl {A : Ob} : Ob.le A A := ⟨fun _ => Iff.rfl, fun _ _ h => h⟩
theorem Ob.le.trans {A B C : Ob} (h : Ob.le A B) (k : Ob.le B C) : Ob.le A C := ⟨fun a => (k.fp a).trans (h.fp a), fun G H x => k.ok G H (h.ok G H x)⟩
theorem Ob.le.and {A A' B B' : Ob} (h : Ob.le A A') (k : Ob.le B B') : Ob.le (A.and B) (A'.and B') :=
  ⟨fun a => or_congr (h.fp a) (k.fp a), fun G H ⟨h1, h2, h3⟩ => ⟨h.ok G H h1, k.ok G H h2, fun a ha hb => h3 a ((h.fp a).mp ha) ((k.fp a).mp hb)⟩⟩
/-- the wishes, seen from a part of the objects -/
abbrev Kx.fr (K : Kx) (F : Ob) : Kx := ⟨K.K, K.W, fun ex ρ o => K.Z ex ρ (o.and F)⟩
section
variable {K : Kx} {ρ ρ' : List Sl} {σ σ' : L2.St} {o o' P P' F : Ob} {G H G' H' : Hp} {R : RD} {N B C : RE} {te : TE} {ts : TS} {T : TA}
theorem EnB.part (e : EnB K (P.and F) ρ G σ H) : EnB K P ρ G σ H :=
  ⟨⟨e.wd.sub, fun a h => e.wd.nfp a (.inl h), fun a h => e.wd.occ a (.inl h), e.wd.ok.1⟩, e.len, e.sl, e.dis, fun a h z => e.onf a h (.inl z)⟩
theorem Stp.whole (e : EnB K (P.and F) ρ G σ H) (s : Stp ρ σ P G H ρ' σ' P' G' H') : Stp ρ σ (P.and F) G H ρ' σ' (P'.and F) G' H' where
  g := s.g
  h := fun a x hx h1 h2 => s.h a x hx (fun z => h1 (.inl z)) h2
  n := fun a g hx h1 h2 => s.n a g hx (fun z => h1 (.inl z)) h2
  f := fun a h => h.elim (fun h => (s.f a h).elim (fun z => .inl (.inl z)) .inr) fun h => .inl (.inr h)
  w := fun a h => (s.w a h).imp id fun z => z.imp id fun z => .inl z
theorem EnB.whole (e : EnB K (P.and F) ρ G σ H) (s : Stp ρ σ P G H ρ' σ' P' G' H') (e' : EnB K P' ρ' G' σ' H') : EnB K (P'.and F) ρ' G' σ' H' := by
  have nP : ∀ a, F.fp a → ¬ P.fp a := fun a h z => e.wd.ok.2.2 a z h
  have nO : ∀ a, F.fp a → ¬ Own ρ σ a := fun a h z => e.onf a z (.inr h)
  have st : ∀ a, F.fp a → H' a = H a := fun a h => by
    obtain ⟨x, hx⟩ := e.wd.occ a (.inr h)
    rw [hx]
    exact s.h a x hx (nP a h) (nO a h)
  refine ⟨⟨e'.wd.sub, fun a h => h.elim (e'.wd.nfp a) fun h => s.n a (e.wd.nfp a (.inr h)) (e.wd.occ a (.inr h)) (nP a h) (nO a h), fun a h => h.elim (e'.wd.occ a) fun h => ?_, e'.wd.ok, F.st _ _ _ _ e.wd.ok.2.1 s.g st, fun a h hF => ?_⟩, e'.len, e'.sl, e'.dis, fun a h z => z.elim (e'.onf a h) fun hF => ?_⟩
  · rw [st a h]; exact e.wd.occ a (.inr h)
  · obtain ⟨x, hx⟩ := e.wd.occ a (.inr hF)
    rcases s.f a h with z | z | z
    · exact nP a hF z
    · rw [hx] at z; cases z
    · exact nO a hF z
  · obtain ⟨x, hx⟩ := e.wd.occ a (.inr hF)
    rcases s.w a h with z | z | z
    · exact nO a hF z
    · rw [hx] at z; cases z
    · exact nP a hF z
theorem En.part (e : En K (P.and F) ρ G σ H) : En (K.fr F) P ρ G σ H :=
  ⟨e.toEnB.part, fun cls fs d ρ' o' G' σ' H' z s e' ek => e.wo cls fs d ρ' (o'.and F) G' σ' H' z (Stp.whole e.toEnB s) (e.toEnB.whole s e') ek⟩
theorem En.whole (e : En K (P.and F) ρ G σ H) (s : Stp ρ σ P G H ρ' σ' P' G' H') (e' : En (K.fr F) P' ρ' G' σ' H') : En K (P'.and F) ρ' G' σ' H' :=
  ⟨e.toEnB.whole s e'.toEnB, e.wo.step (Stp.whole e.toEnB s)⟩
theorem VOk.whole {v : V} {dv : DV} (e : EnB K (P.and F) ρ G σ H) (s : Stp ρ σ P G H ρ' σ' P' G' H') (ok : VOk K P' ρ' G' σ' H' v dv) (fr : VFr ρ σ P H v dv) : VOk K (P'.and F) ρ' G' σ' H' v dv ∧ VFr ρ σ (P.and F) H v dv := by
  cases dv with
  | d x => exact ⟨ok, trivial⟩
  | raw x => exact ⟨ok, trivial⟩
  | sl i c => exact ⟨ok, trivial⟩
  | new c =>
    obtain ⟨p, y, hv, g1, h1, ok, nf, no⟩ := ok
    refine ⟨⟨p, y, hv, g1, h1, ok, fun z => z.elim nf fun hF => ?_, no⟩, fun q hq => (fr q hq).imp id fun z => z.imp .inl id⟩
    obtain ⟨x, hx⟩ := e.wd.occ p (.inr hF)
    rcases fr p hv with z | z | z
    · rw [hx] at z; cases z
    · exact e.wd.ok.2.2 p z hF
    · exact e.onf p z (.inr hF)
/-- THE FRAME RULE -/
theorem xe_frame (h : XE (K.fr F) te ρ P fun dv ρ' P' => R dv ρ' (P'.and F)) : XE K te ρ (P.and F) R := fun G σ H e Q q =>
  h G σ H e.part Q fun v dv ρ' o' G' H' r s e' ok fr => q v dv ρ' (o'.and F) G' H' r (Stp.whole e.toEnB s) (e.whole s e') (VOk.whole e.toEnB s ok fr).1 (VOk.whole e.toEnB s ok fr).2
theorem xs_frame (h : XS (K.fr F) ts ρ P (fun ρ' o' => N ρ' (o'.and F)) (fun dv ρ' o' => R dv ρ' (o'.and F)) (fun ρ' o' => B ρ' (o'.and F)) fun ρ' o' => C ρ' (o'.and F)) : XS K ts ρ (P.and F) N R B C := fun G σ H e D qn qr qb qc =>
  h G σ H e.part D (fun _ _ _ _ _ n s e' => qn _ _ _ _ _ n (Stp.whole e.toEnB s) (e.whole s e')) (fun _ _ _ _ _ _ _ n s e' ok fr => qr _ _ _ _ _ _ _ n (Stp.whole e.toEnB s) (e.whole s e') (VOk.whole e.toEnB s ok fr).1 (VOk.whole e.toEnB s ok fr).2)
    (fun _ _ _ _ _ n s e' => qb _ _ _ _ _ n (Stp.whole e.toEnB s) (e.whole s e')) (fun _ _ _ _ _ n s e' => qc _ _ _ _ _ n (Stp.whole e.toEnB s) (e.whole s e'))
/-- the objects under another form -/
theorem xe_obj (l : Ob.le o o') (h : XE K te ρ o' R) : XE K te ρ o R := fun G σ H e Q q =>
  have s0 : Stp ρ σ o G H ρ σ o' G H := Stp.refl.le l
  h G σ H (e.le l) Q fun v dv ρ' o2 G' H' r s e' ok fr => q v dv ρ' o2 G' H' r (s0.trans s) e' ok (fr.back s0)
theorem xs_obj (l : Ob.le o o') (h : XS K ts ρ o' N R B C) : XS K ts ρ o N R B C := fun G σ H e D qn qr qb qc =>
  have s0 : Stp ρ σ o G H ρ σ o' G H := Stp.refl.le l
  h G σ H (e.le l) D (fun _ _ _ _ _ n s e => qn _ _ _ _ _ n (s0.trans s) e) (fun _ _ _ _ _ _ _ n s e ok fr => qr _ _ _ _ _ _ _ n (s0.trans s) e ok (fr.back s0)) (fun _ _ _ _ _ n s e => qb _ _ _ _ _ n (s0.trans s) e) (fun _ _ _ _ _ n s e => qc _ _ _ _ _ n (s0.trans s) e)
/-- objects that are not needed any more -/
theorem xs_drop1 (h : XS K ts ρ F N R B C) : XS K ts ρ (P.and F) N R B C := XS.enter fun G σ H e =>
  ⟨F, ⟨⟨e.wd.sub, fun a h => e.wd.nfp a (.inr h), fun a h => e.wd.occ a (.inr h), e.wd.ok.2.1⟩, e.len, e.sl, e.dis, fun a h z => e.onf a h (.inr z)⟩, fun a h => .inl (.inr h), fun a h => .inr h, h⟩
theorem xe_objOut {l : ∀ o : Ob, Ob} (hl : ∀ o, Ob.le o (l o)) (h : XE K te ρ o fun dv ρ' o' => R dv ρ' (l o')) : XE K te ρ o R := fun G σ H e Q q =>
  h G σ H e Q fun v dv ρ' o2 G' H' r s e' ok fr => q v dv ρ' (l o2) G' H' r (s.le (hl o2)) (e'.le (hl o2)) (ok.le (hl o2)) fr
end
/-! ### instances -/
def clsA (K : PySem.W.Frag) (x : Str) : Addr := match PySem.W.nsIn K mainGlobals x with
  | some (some (.ref a)) => a
  | _ => 0
theorem clsA_of {K : PySem.W.Frag} {x : Str} {a : Addr} (h : PySem.W.nsIn K mainGlobals x = some (some (.ref a))) : clsA K x = a := by
  unfold clsA
  rw [h]
abbrev Fls := List (Str × PyData)
abbrev FlR (K : PySem.W.Frag) (G : Hp) (vs : List (Str × V)) (fs : Fls) : Prop := Paired (fun (p : Str × V) (q : Str × PyData) => p.1 = q.1 ∧ Rp K G p.2 q.2) vs fs
/-- an instance of the class C at a, its dict at dx, its attributes fs -/
def insOb (K : PySem.W.Frag) (C a dx : Addr) (fs : Fls) : Ob where
  fp := fun b => b = a ∨ b = dx
  ok := fun G H => ∃ vs, H a = some (.ins C dx vs) ∧ H dx = some (.own a) ∧ FlR K G vs fs
  st := fun G H G' H' ⟨vs, h1, h2, h3⟩ s h => ⟨vs, by rw [h a (.inl rfl)]; exact h1, by rw [h dx (.inr rfl)]; exact h2, Paired.mapP h3 fun p q z => ⟨z.1, Rp.sub s z.2⟩⟩
def putFD (f : Str) (d : PyData) : Fls → Fls
  | [] => [(f, d)]
  | (g, e) :: r => if g = f then (g, d) :: r else (g, e) :: putFD f d r
section
variable {K : PySem.W.Frag} {G : Hp}
theorem FlR.look {vs : List (Str × V)} {fs : Fls} (h : FlR K G vs fs) (f : Str) : (vs.lookup f = none ∧ fs.lookup f = none) ∨ ∃ v d, vs.lookup f = some v ∧ fs.lookup f = some d ∧ Rp K G v d := by
  induction h with
  | nil => exact .inl ⟨rfl, rfl⟩
  | @cons p q a b h t ih =>
    obtain ⟨h1, h2⟩ := h
    obtain ⟨x, v⟩ := p
    obtain ⟨y, d⟩ := q
    obtain rfl : x = y := h1
    by_cases e : f = x
    · subst e
      exact .inr ⟨v, d, by simp [List.lookup], by simp [List.lookup], h2⟩
    · have e' : (f == x) = false := by simpa using e
      have z1 : ((x, v) :: a).lookup f = a.lookup f := by simp [List.lookup, e']
      have z2 : ((x, d) :: b).lookup f = b.lookup f := by simp [List.lookup, e']
      rw [z1, z2]
      exact ih
theorem FlR.put {vs : List (Str × V)} {fs : Fls} (h : FlR K G vs fs) (f : Str) {v : V} {d : PyData} (r : Rp K G v d) : FlR K G (putF f v vs) (putFD f d fs) := by
  induction h with
  | nil => exact .cons ⟨rfl, r⟩ .nil
  | @cons p q a b h t ih =>
    obtain ⟨h1, h2⟩ := h
    obtain ⟨x, w⟩ := p
    obtain ⟨y, e⟩ := q
    obtain rfl : x = y := h1
    show FlR K G (if x = f then (x, v) :: a else (x, w) :: putF f v a) (if x = f then (x, d) :: b else (x, e) :: putFD f d b)
    by_cases hx : x = f
    · rw [if_pos hx, if_pos hx]; exact .cons ⟨rfl, r⟩ t
    · rw [if_neg hx, if_neg hx]; exact .cons ⟨rfl, h2⟩ ih
theorem FlR.len {vs : List (Str × V)} {fs : Fls} (h : FlR K G vs fs) : vs.length = fs.length := Paired.length h
end
/-! ### attributes -/
section
variable {K : Kx} {ρ ρ' : List Sl} {o o' : Ob} {R : RD} {N B C' : RE} {te tv : TE} {T : TA} {C a dx : Addr} {fs : Fls} {f m : Str}
/-- o.f -/
theorem xe_fldO {d : PyData} (c : Cls K C) (n : NoAttr K C f) (l : fs.lookup f = some d) (h : XE K te ρ o fun dv ρ1 o1 => dv = .raw (.ref a) ∧ o1 = insOb K C a dx fs ∧ R (.d d) ρ1 o1) : XE K (tFld K te f) ρ o R := fun G σ H e Q q =>
  h.seq e fun x dv ρ1 o1 G1 H1 ⟨hd, ho, r⟩ s1 e1 ok1 fr1 => by
    subst hd ho
    have ok1 : x = .ref a := ok1
    subst ok1
    obtain ⟨vs, h1, h2, h3⟩ := e1.wd.ok
    rcases h3.look f with ⟨_, z⟩ | ⟨v, d', z1, z2, rv⟩
    · rw [z] at l; cases l
    · rw [z2] at l
      cases l
      exact ⟨a, C, dx, vs, v, rfl, h1, c, n, z1, q _ _ _ _ _ _ r s1 e1 rv trivial⟩
/-- the heap with the instance changed -/
theorem ins_put {G H : Hp} {σ : L2.St} {v : V} {d : PyData} (e : En K (insOb K C a dx fs) ρ G σ H) {vs : List (Str × V)} (h1 : H a = some (.ins C dx vs)) (h2 : H dx = some (.own a)) (h3 : FlR K G vs fs) (rv : Rp K G v d) :
    Stp ρ σ (insOb K C a dx fs) G H ρ σ (insOb K C a dx (putFD f d fs)) G (upd H a (.ins C dx (putF f v vs))) ∧ En K (insOb K C a dx (putFD f d fs)) ρ G σ (upd H a (.ins C dx (putF f v vs))) := by
  have nd : dx ≠ a := fun z => by rw [z, h1] at h2; cases h2
  have stp : Stp ρ σ (insOb K C a dx fs) G H ρ σ (insOb K C a dx (putFD f d fs)) G (upd H a (.ins C dx (putF f v vs))) :=
    ⟨Sub.refl, fun b x hx h _ => by rw [upd_ne (show b ≠ a from fun z => h (.inl z))]; exact hx, fun _ h _ _ _ => h, fun _ h => .inl h, fun _ h => .inl h⟩
  refine ⟨stp, e.step stp ⟨fun b x hx => ?_, e.wd.nfp, fun b hb => ?_, ⟨_, upd_same, by rw [upd_ne nd]; exact h2, h3.put f rv⟩⟩ fun b hb => ?_⟩
  · rw [upd_ne (show b ≠ a from fun z => by rw [z, e.wd.nfp a (.inl rfl)] at hx; cases hx)]; exact e.wd.sub _ _ hx
  · by_cases z : b = a
    · subst z; exact ⟨_, upd_same⟩
    · rw [upd_ne z]; exact e.wd.occ b hb
  · have n := e.onf b hb
    exact ⟨(e.occ_own hb).1, upd_ne (show b ≠ a from fun z => n (.inl z)), n⟩
/-- o.f = e -/
theorem xs_fldO {fs' : Fls} {d : PyData} (c : Cls K C) (n : NoAttr K C f) (hl : Nat.ble fs.length 900 = true) (h : XEF K tv ρ o fun dv ρ1 o1 => dv = .d d ∧ XE K te ρ1 o1 fun dv2 ρ2 o2 => dv2 = .raw (.ref a) ∧ o2 = insOb K C a dx fs ∧ putFD f d fs = fs' ∧ N ρ2 (insOb K C a dx fs')) : XS K (sFld K te tv f) ρ o N R B C' := fun G σ H e D qn qr qb qc =>
  XE.seq h e fun y dv ρ1 o1 G1 H1 ⟨hd, r1⟩ s1 e1 ok1 fr1 => by
    subst hd
    refine r1.seq e1 fun x dv2 ρ2 o2 G2 H2 ⟨hd2, ho, hp, n2⟩ s2 e2 ok2 fr2 => ?_
    subst hd2 ho hp
    have ok2 : x = .ref a := ok2
    subst ok2
    have ok1 := ok1.step s2 trivial
    obtain ⟨vs, h1, h2, h3⟩ := e2.wd.ok
    have hlen := Nat.ble_eq.mp hl
    obtain ⟨st, en⟩ := ins_put (f := f) e2 h1 h2 h3 ok1
    exact ⟨a, C, dx, vs, rfl, h1, c, n, by rw [h3.len]; omega, qn _ _ _ _ _ n2 ((s1.trans s2).trans st) en⟩
/-- o.f += e, numbers -/
theorem xs_fldAddO {fs' : Fls} {i j : Int} (c : Cls K C) (n : NoAttr K C f) (hl : Nat.ble fs.length 900 = true) (l : fs.lookup f = some (.int i)) (h : XE K te ρ o fun dv ρ1 o1 => dv = .raw (.ref a) ∧ o1 = insOb K C a dx fs ∧
      XE K tv ρ1 o1 fun dv2 ρ2 o2 => dv2 = .d (.int j) ∧ o2 = insOb K C a dx fs ∧ putFD f (.int (i + j)) fs = fs' ∧ N ρ2 (insOb K C a dx fs')) : XS K (sFldAug K te tv rAdd f) ρ o N R B C' := fun G σ H e D qn qr qb qc =>
  h.seq e fun x dv ρ1 o1 G1 H1 ⟨hd, ho, r1⟩ s1 e1 ok1 fr1 => by
    subst hd ho
    have ok1 : x = .ref a := ok1
    subst ok1
    obtain ⟨vs, h1, h2, h3⟩ := e1.wd.ok
    rcases h3.look f with ⟨_, z⟩ | ⟨v, d', z1, z2, rv⟩
    · rw [z] at l; cases l
    · rw [z2] at l
      cases l
      cases rv
      refine ⟨a, C, dx, vs, _, rfl, h1, c, n, z1, r1.seq e1 fun y dv2 ρ2 o2 G2 H2 ⟨hd2, ho2, hp, n2⟩ s2 e2 ok2 fr2 => ?_⟩
      subst hd2 ho2 hp
      cases vok_int ok2
      obtain ⟨vs2, k1, k2, k3⟩ := e2.wd.ok
      have hlen := Nat.ble_eq.mp hl
      obtain ⟨st, en⟩ := ins_put (f := f) e2 k1 k2 k3 (.int (i + j))
      exact ⟨i, j, rfl, rfl, dx, vs2, k1, by rw [k3.len]; omega, qn _ _ _ _ _ n2 ((s1.trans s2).trans st) en⟩
theorem xs_fldSubO {fs' : Fls} {i j : Int} (c : Cls K C) (n : NoAttr K C f) (hl : Nat.ble fs.length 900 = true) (l : fs.lookup f = some (.int i)) (h : XE K te ρ o fun dv ρ1 o1 => dv = .raw (.ref a) ∧ o1 = insOb K C a dx fs ∧
      XE K tv ρ1 o1 fun dv2 ρ2 o2 => dv2 = .d (.int j) ∧ o2 = insOb K C a dx fs ∧ putFD f (.int (i - j)) fs = fs' ∧ N ρ2 (insOb K C a dx fs')) : XS K (sFldAug K te tv rSub f) ρ o N R B C' := fun G σ H e D qn qr qb qc =>
  h.seq e fun x dv ρ1 o1 G1 H1 ⟨hd, ho, r1⟩ s1 e1 ok1 fr1 => by
    subst hd ho
    have ok1 : x = .ref a := ok1
    subst ok1
    obtain ⟨vs, h1, h2, h3⟩ := e1.wd.ok
    rcases h3.look f with ⟨_, z⟩ | ⟨v, d', z1, z2, rv⟩
    · rw [z] at l; cases l
    · rw [z2] at l
      cases l
      cases rv
      refine ⟨a, C, dx, vs, _, rfl, h1, c, n, z1, r1.seq e1 fun y dv2 ρ2 o2 G2 H2 ⟨hd2, ho2, hp, n2⟩ s2 e2 ok2 fr2 => ?_⟩
      subst hd2 ho2 hp
      cases vok_int ok2
      obtain ⟨vs2, k1, k2, k3⟩ := e2.wd.ok
      have hlen := Nat.ble_eq.mp hl
      obtain ⟨st, en⟩ := ins_put (f := f) e2 k1 k2 k3 (.int (i - j))
      exact ⟨i, j, rfl, rfl, dx, vs2, k1, by rw [k3.len]; omega, qn _ _ _ _ _ n2 ((s1.trans s2).trans st) en⟩
/-! ### methods -/
/-- o.m(..), the object at a is an instance; the rest of the objects stands beside -/
theorem xe_methO {S : DS} {E : XK} (lm : fs.lookup m = none) (h : XE K te ρ o fun dv ρ1 o1 => dv = .raw (.ref a) ∧ o1 = insOb K C a dx fs ∧ XAF K T ρ1 o1 fun dvs ρ2 o2 => S (.raw (.ref a) :: dvs) o2 (fun dv o3 => R dv ρ2 o3) (fun _ _ => False)) :
    XE K (tMeth C m (spD K S) [] E te T) ρ o R := fun G σ H e Q q =>
  h.seq e fun x dv ρ1 o1 G1 H1 ⟨hd, ho, r1⟩ s1 e1 ok1 fr1 => by
    subst hd ho
    have ok1 : x = .ref a := ok1
    subst ok1
    obtain ⟨vs, h1, h2, h3⟩ := e1.wd.ok
    have hm : vs.lookup m = none := by
      rcases h3.look m with ⟨z, _⟩ | ⟨v, d', _, z2, _⟩
      · exact z
      · rw [z2] at lm; cases lm
    refine ⟨a, dx, vs, rfl, h1, hm, r1 G1 σ H1 e1 _ fun us dvs ρ2 o2 G2 H2 ⟨hd, r⟩ s2 e2 ok => ?_⟩
    show spD K S (.ref a :: (us ++ [])) H2 Q E
    rw [List.append_nil]
    exact call_run q (fun d hd' => (List.mem_cons.mp hd').elim (fun z => .inr ⟨_, z⟩) (hd d)) r (fun _ _ _ _ _ _ z => z.elim) (s1.trans s2) e2 (.cons rfl ok)
end
/-! ### methods that may raise -/
def tMethW (C : Addr) (m : Str) (sp : Sp) (E : L2.St → XK) (ta : TE) (t : TA) : TE := fun σ H Q => ta σ H fun x H1 => ∃ a dx fs, x = .ref a ∧ H1 a = some (.ins C dx fs) ∧ fs.lookup m = none ∧ t σ H1 fun vs H2 => sp (x :: vs) H2 Q (E σ)
section
variable {X : Cx} {CX : CXT} {k : Nat} {f C : Addr} {fd : FuncData} {ps : List Str} {sp : Sp} {E : L2.St → XK} {m : Str} {pos apos : Pos} {e o : Expr} {es : List Expr} {ta : TE} {t : TA}
theorem pe_methW {pl : Sem Bool} (he : PE X o ta) (c : Cls X.K C) (hm : Meth X.K C m f) (F1 : FnOk X.prog X.w X.K X.mg X.base CX k f fd ps sp) (hr : Room k X.A) (hb : Binds X.K fd ps []) (hx : ∀ σ, PassesAt CX X σ (E σ)) (ha : PA X (e :: es) t)
    (hst : starEach (e :: es) X.env = (false, eval e X.env) :: starEach es X.env := by rfl) (hpl : (backTo pos (starEach es X.env)).any (·.1) = false := by rfl)
    (ht : eval (.Call (.Attribute o m apos) (e :: es) [] pos) X.env = (do
      let w ← eval o X.env
      standAt apos.atName
      let (g, own) ← holding [w] (getMethod w m pl)
      callWith pos g own (backTo pos (starEach (e :: es) X.env)) (backToKw pos (keywordEach [] X.env))) := by rfl) :
    PE X (.Call (.Attribute o m apos) (e :: es) [] pos) (tMethW C m sp E ta t) := by
  refine ⟨fun pins s σ H Q I h => PySem.W.methodCall_KW (pl := pl) (thn (he.run pins s σ H _ I h) fun u s1 ⟨x, H1, I1, rx, a, dx, fs, ex, ea, l, q⟩ => ?_) ht⟩
  subst ex
  obtain rfl : u = Value.ref a := rx
  exact getmeth_ok I1 ea c hm l (PySem.W.callWith_K (first := [.ref a]) (h₀ := X.base) I.ok.mod.kin hm.kp (thn (ha.run pos pins s1 σ H1 _ I1 q) fun us s2 ⟨vs, H2, I2, r, q2⟩ => ⟨I2.kIn, run_fnS (us := .ref a :: us) (vs := .ref a :: vs) F1 hr hb (hx σ) I2 (.cons rfl r) q2⟩) hst hpl)
theorem pe_methW0 {pl : Sem Bool} (he : PE X o ta) (c : Cls X.K C) (hm : Meth X.K C m f) (F1 : FnOk X.prog X.w X.K X.mg X.base CX k f fd ps sp) (hr : Room k X.A) (hb : Binds X.K fd ps []) (hx : ∀ σ, PassesAt CX X σ (E σ))
    (ht : eval (.Call (.Attribute o m apos) [] [] pos) X.env = (do
      let w ← eval o X.env
      standAt apos.atName
      let (g, own) ← holding [w] (getMethod w m pl)
      callWith pos g own (backTo pos (starEach [] X.env)) (backToKw pos (keywordEach [] X.env))) := by rfl) :
    PE X (.Call (.Attribute o m apos) [] [] pos) (tMethW C m sp E ta tNil) := by
  refine ⟨fun pins s σ H Q I h => PySem.W.methodCall_KW (pl := pl) (thn (he.run pins s σ H _ I h) fun u s1 ⟨x, H1, I1, rx, a, dx, fs, ex, ea, l, q⟩ => ?_) ht⟩
  subst ex
  obtain rfl : u = Value.ref a := rx
  exact getmeth_ok I1 ea c hm l (PySem.W.callWith_K0 (first := [.ref a]) I1.kIn hm.kp (run_fnS (us := [.ref a]) (vs := [.ref a]) F1 hr hb (hx σ) I1 (.cons rfl .nil) q))
end
section
variable {K : Kx} {ρ : List Sl} {o : Ob} {R : RD} {te : TE} {T : TA} {C a dx : Addr} {fs : Fls} {m : Str}
theorem xe_methW {S : DS} (lm : fs.lookup m = none) (h : XE K te ρ o fun dv ρ1 o1 => dv = .raw (.ref a) ∧ o1 = insOb K C a dx fs ∧ XAF K T ρ1 o1 fun dvs ρ2 o2 => S (.raw (.ref a) :: dvs) o2 (fun dv o3 => R dv ρ2 o3) (fun ex o3 => K.Z ex ρ2 o3)) :
    XE K (tMethW C m (spD K S) (WE K.W) te T) ρ o R := fun G σ H e Q q =>
  h.seq e fun x dv ρ1 o1 G1 H1 ⟨hd, ho, r1⟩ s1 e1 ok1 fr1 => by
    subst hd ho
    have ok1 : x = .ref a := ok1
    subst ok1
    obtain ⟨vs, h1, h2, h3⟩ := e1.wd.ok
    have hm : vs.lookup m = none := by
      rcases h3.look m with ⟨z, _⟩ | ⟨v, d', _, z2, _⟩
      · exact z
      · rw [z2] at lm; cases lm
    refine ⟨a, dx, vs, rfl, h1, hm, r1 G1 σ H1 e1 _ fun us dvs ρ2 o2 G2 H2 ⟨hd, r⟩ s2 e2 ok => ?_⟩
    exact call_run q (fun d hd' => (List.mem_cons.mp hd').elim (fun z => .inr ⟨_, z⟩) (hd d)) r (fun cls fs d o3 G3 H3 z s3 e3 ek => e2.wo cls fs d ρ2 o3 G3 σ H3 z s3 e3 ek) (s1.trans s2) e2 (.cons rfl ok)
/-! ### a new instance -/
/-- plain values and references do not look at heaps -/
theorem VAll.moveOb {K : PySem.W.Frag} {o1 o2 : Ob} {ρ : List Sl} {G : Hp} {σ : L2.St} {H H2 : Hp} {vs : List V} {dvs : List DV} (a : VAll K o1 ρ G σ H vs dvs) (h : ∀ d ∈ dvs, (∃ x, d = .d x) ∨ ∃ v, d = .raw v) : VAll K o2 ρ G σ H2 vs dvs := by
  induction a with
  | nil => exact .nil
  | cons h1 _ ih =>
    refine .cons ?_ (ih fun d hd => h d (List.mem_cons_of_mem _ hd))
    rcases h _ List.mem_cons_self with ⟨x, rfl⟩ | ⟨v, rfl⟩
    · exact h1
    · exact h1
theorem xe_makeO {S : DS} {E : XK} (hW : K.W = fun cls d _ H => E cls d H) (h : XAF K T ρ o fun dvs ρ1 o1 => ∀ x dx, S (.raw (.ref x) :: dvs) (insOb K C x dx []) (fun dv o2 => dv = .d .none ∧ R (.raw (.ref x)) ρ1 (o2.and o1)) (fun ex o2 => K.Z ex ρ1 (o2.and o1))) :
    XE K (tMake C (spD K S) [] E T) ρ o R := fun G σ H e Q q =>
  h G σ H e _ fun vs dvs ρ1 o1 G1 H1 ⟨hd, r⟩ s1 e1 ok => by
    intro x dx hx hdx ne
    have hxx : upd (upd H1 dx (.own x)) x (.ins C dx []) x = some (.ins C dx []) := upd_same
    have hdd : upd (upd H1 dx (.own x)) x (.ins C dx []) dx = some (.own x) := by rw [upd_ne ne, upd_same]
    have hoth : ∀ b y, H1 b = some y → upd (upd H1 dx (.own x)) x (.ins C dx []) b = some y := fun b y hb => by
      rw [upd_ne (show b ≠ x from fun z => by rw [z, hx] at hb; cases hb), upd_ne (show b ≠ dx from fun z => by rw [z, hdx] at hb; cases hb)]; exact hb
    have gx := e1.wd.gnone hx
    have gd := e1.wd.gnone hdx
    have nfx := nofp e1 hx
    have nfd := nofp e1 hdx
    have nox := noown e1 hx
    have nod := noown e1 hdx
    have stp : Stp ρ1 σ o1 G1 H1 ρ1 σ ((insOb K C x dx []).and o1) G1 (upd (upd H1 dx (.own x)) x (.ins C dx [])) :=
      ⟨Sub.refl, fun b y hb _ _ => hoth b y hb, fun _ h _ _ _ => h, fun b hb => hb.elim (fun hb => hb.elim (fun z => .inr (.inl (by rw [z]; exact hx))) fun z => .inr (.inl (by rw [z]; exact hdx))) .inl, fun _ h => .inl h⟩
    have en : En K ((insOb K C x dx []).and o1) ρ1 G1 σ (upd (upd H1 dx (.own x)) x (.ins C dx [])) := by
      refine e1.step stp ⟨fun b y hb => hoth b y (e1.wd.sub b y hb), fun b hb => ?_, fun b hb => ?_, ⟨⟨[], hxx, hdd, .nil⟩, ?_, ?_⟩⟩ fun b hb => ?_
      · rcases hb with (hb | hb) | hb
        · rw [hb]; exact gx
        · rw [hb]; exact gd
        · exact e1.wd.nfp b hb
      · rcases hb with (hb | hb) | hb
        · rw [hb]; exact ⟨_, hxx⟩
        · rw [hb]; exact ⟨_, hdd⟩
        · obtain ⟨y, hy⟩ := e1.wd.occ b hb; exact ⟨y, hoth b y hy⟩
      · exact o1.st _ _ _ _ e1.wd.ok Sub.refl fun b hb => by
          obtain ⟨y, hy⟩ := e1.wd.occ b hb
          rw [hoth b y hy, hy]
      · intro b hb hF
        rcases hb with hb | hb
        · rw [hb] at hF; exact nfx hF
        · rw [hb] at hF; exact nfd hF
      · obtain ⟨g, y, hy⟩ := e1.occ_own hb
        refine ⟨g, by rw [hoth b y hy, hy], fun z => ?_⟩
        rcases z with (z | z) | z
        · rw [z] at hb; exact nox hb
        · rw [z] at hb; exact nod hb
        · exact e1.onf b hb z
    have s12 := s1.trans stp
    show spD K S (.ref x :: (vs ++ [])) _ _ E
    rw [List.append_nil]
    have enp := en.part
    have okp : VAll K (insOb K C x dx []) ρ1 G1 σ (upd (upd H1 dx (.own x)) x (.ins C dx [])) vs dvs := ok.moveOb hd
    refine call_run (K := K.fr o1) (ρ := ρ1) (o := insOb K C x dx []) (G := G1) (σ := σ) (H := upd (upd H1 dx (.own x)) x (.ins C dx [])) (R := fun dv ρ2 o2 => dv = .d .none ∧ R (.raw (.ref x)) ρ2 (o2.and o1)) ?_ (fun d hd' => (List.mem_cons.mp hd').elim (fun z => .inr ⟨_, z⟩) (hd d)) (r x dx) (fun cls fs d o3 G3 H3 z s3 e3 ek => ?_) Stp.refl enp (.cons rfl okp)
    · intro v dv ρ2 o2 G2 H2 ⟨hdv, r2⟩ s2 e2 ok2 fr2
      subst hdv
      refine ⟨vok_non ok2, q _ _ _ _ _ _ r2 (s12.trans (Stp.whole en.toEnB s2)) (en.whole s2 e2) rfl trivial⟩
    · have := enp.wo cls fs d ρ1 o3 G3 σ H3 z s3 e3 ek
      rw [show (K.fr o1).W = K.W from rfl, hW] at this
      exact this
end
end DL

set_option Elab.async false
set_option linter.all false
set_option maxRecDepth 100000
set_option maxHeartbeats 1000000
namespace DL
open PySem PySem.Spec PyProof.Rows L2 TL HotX L2H
/-! ### a list's end while an exception is handled -/
theorem list_end_hot {prog : Program} {w : World} {A : Around} {E : Value → Shared → Prop} {s : Shared} {it l x1 : Addr} {i : Nat} {xs : Array Value} {Q : Option Value → Shared → Prop} (hot : HotAt A x1 s.heap) (q : s.heap.IsListIter it l i) (hl : s.heap.IsList l xs) (hx : xs[i]? = none) (n1 : it ≠ x1)
    (go : ∀ h2, Heap.ExtBut it s.heap h2 → Q none { s with heap := h2 }) : wpAny (model prog w) A (pyNext (.ref it)) Q E s := by
  obtain ⟨hh, ox, vx, gx, dx, cx⟩ := hot
  obtain ⟨o, ho, hc, hd⟩ := id q
  obtain ⟨ol, hol, _, nl, hdl⟩ := hl
  unfold pyNext
  apply wpAny_bind; apply wpAny_attempt
  refine wpAny_callSpecial?_slot (name := Str.ofString "__next__") q.typeIs slot_listiter_next (wpAny_call_entry slot_listiter_next q.typeIs entry_listiter_next ?_ (args_listiter_next _))
  show wpAny _ _ (field (.ref it) 0 >>= _) _ _ s
  apply wpAny_bind; refine wpAny_field ho hd (x := .ref l) rfl ?_
  show wpAny _ _ (if (Value.ref l == Value.none) = true then _ else _) _ _ s
  rw [if_neg (show ¬ ((Value.ref l == Value.none) = true) from Bool.false_ne_true)]
  show wpAny _ _ (field (.ref it) 1 >>= _) _ _ s
  apply wpAny_bind; refine wpAny_field ho hd (x := .int i 0) rfl ?_
  show wpAny _ _ (seqItems? (.ref l) >>= _) _ _ s
  apply wpAny_bind; refine wpAny_seqItems hol hdl ?_
  simp only [Int.toNat_natCast, hx]
  apply wpAny_bind; refine wpAny_rule ?_
  apply wpAny_bind; refine wpAny_setField ho hd (by simp) ?_
  show wpAny _ _ (newExc (.type "StopIteration") [] >>= _) _ _ _
  apply wpAny_bind
  simp only [newExc, newTuple]
  apply wpAny_bind; refine wpAny_newObj_type ?_ (by size_fits)
  refine wpAny_bind (m := firstArgMember _ _) (wpAny_of_eq (a := Value.none) (by first | rfl | (simp only [firstArgMember]; rfl)) ?_)
  refine wpAny_newObj_type ?_ (by size_fits)
  have sb := Heap.SameBut.update (h := s.heap) (a := it) (f := Obj.mapFields (·.setIfInBounds 0 .none))
  have gx2 := (sb.2 x1 n1.symm).trans gx
  have gx3 := Heap.get?_push_of_some { cls := .type "tuple", data := .seq #[] } gx2
  refine raiseNew_hot ⟨hh, ox, vx, Heap.get?_push_of_some _ gx3, dx, cx⟩ (Nat.ne_of_lt (Heap.lt_size gx3)) (Heap.get?_push_size _ rfl) rfl (by first | (simp; done) | (simp; omega) | (simp only [Array.size_append]; simp; omega)) ?_
  apply wpAny_bind
  refine wpAny_isInstance (T := "StopIteration") (b := true) ⟨_, Heap.get?_update_self _ (Heap.get?_push_size _ rfl) rfl, rfl⟩ isSubtype_stop ?_
  refine wpAny_pure (go _ fun b o n e => ?_)
  have e2 := Heap.get?_push_of_some { cls := .type "tuple", data := .seq #[] } ((sb.2 b n).trans e)
  rw [Heap.get?_update_other _ _ (Nat.ne_of_gt (Heap.lt_size e2))]
  exact Heap.get?_push_of_some _ e2
theorem tup_end_hot {prog : Program} {w : World} {A : Around} {E : Value → Shared → Prop} {s : Shared} {it l x1 : Addr} {i : Nat} {xs : Array Value} {Q : Option Value → Shared → Prop} (hot : HotAt A x1 s.heap) (q : IsTupIter s.heap it l i) (hl : IsTup s.heap l xs) (hx : xs[i]? = none) (n1 : it ≠ x1)
    (go : ∀ h2, Heap.ExtBut it s.heap h2 → Q none { s with heap := h2 }) : wpAny (model prog w) A (pyNext (.ref it)) Q E s := by
  obtain ⟨hh, ox, vx, gx, dx, cx⟩ := hot
  obtain ⟨o, ho, hc, hd⟩ := id q
  obtain ⟨ol, hol, _, nl, hdl⟩ := hl
  unfold pyNext
  apply wpAny_bind; apply wpAny_attempt
  refine wpAny_callSpecial?_slot (name := Str.ofString "__next__") q.typeIs slot_tupleiter_next (wpAny_call_entry slot_tupleiter_next q.typeIs entry_tupleiter_next ?_ (args_tupleiter_next _))
  show wpAny _ _ (field (.ref it) 0 >>= _) _ _ s
  apply wpAny_bind; refine wpAny_field ho hd (x := .ref l) rfl ?_
  show wpAny _ _ (if (Value.ref l == Value.none) = true then _ else _) _ _ s
  rw [if_neg (show ¬ ((Value.ref l == Value.none) = true) from Bool.false_ne_true)]
  show wpAny _ _ (field (.ref it) 1 >>= _) _ _ s
  apply wpAny_bind; refine wpAny_field ho hd (x := .int i 0) rfl ?_
  show wpAny _ _ (seqItems? (.ref l) >>= _) _ _ s
  apply wpAny_bind; refine wpAny_seqItems hol hdl ?_
  simp only [Int.toNat_natCast, hx]
  apply wpAny_bind; refine wpAny_rule ?_
  apply wpAny_bind; refine wpAny_setField ho hd (by simp) ?_
  show wpAny _ _ (newExc (.type "StopIteration") [] >>= _) _ _ _
  apply wpAny_bind
  simp only [newExc, newTuple]
  apply wpAny_bind; refine wpAny_newObj_type ?_ (by size_fits)
  refine wpAny_bind (m := firstArgMember _ _) (wpAny_of_eq (a := Value.none) (by first | rfl | (simp only [firstArgMember]; rfl)) ?_)
  refine wpAny_newObj_type ?_ (by size_fits)
  have sb := Heap.SameBut.update (h := s.heap) (a := it) (f := Obj.mapFields (·.setIfInBounds 0 .none))
  have gx2 := (sb.2 x1 n1.symm).trans gx
  have gx3 := Heap.get?_push_of_some { cls := .type "tuple", data := .seq #[] } gx2
  refine raiseNew_hot ⟨hh, ox, vx, Heap.get?_push_of_some _ gx3, dx, cx⟩ (Nat.ne_of_lt (Heap.lt_size gx3)) (Heap.get?_push_size _ rfl) rfl (by first | (simp; done) | (simp; omega) | (simp only [Array.size_append]; simp; omega)) ?_
  apply wpAny_bind
  refine wpAny_isInstance (T := "StopIteration") (b := true) ⟨_, Heap.get?_update_self _ (Heap.get?_push_size _ rfl) rfl, rfl⟩ isSubtype_stop ?_
  refine wpAny_pure (go _ fun b o n e => ?_)
  have e2 := Heap.get?_push_of_some { cls := .type "tuple", data := .seq #[] } ((sb.2 b n).trans e)
  rw [Heap.get?_update_other _ _ (Nat.ne_of_gt (Heap.lt_size e2))]
  exact Heap.get?_push_of_some _ e2
theorem unpack_hot {prog : Program} {w : World} {A : Around} {E : Value → Shared → Prop} {s : Shared} {t x1 : Addr} {items : Array Value} {Q : List Value → Shared → Prop} (hot : HotAt A x1 s.heap) (ht : IsTup s.heap t items)
    (go : ∀ h2, Heap.ExtBut s.heap.objs.size s.heap h2 → Q items.toList { s with heap := h2 }) : wpAny (model prog w) A (unpackItems (.ref t) items.size none) Q E s := by
  obtain ⟨hh, ox, vx, gx, dx, cx⟩ := hot
  have ne : t ≠ s.heap.objs.size := by obtain ⟨o, ho, _⟩ := ht; exact Nat.ne_of_lt (Heap.lt_size ho)
  have nx : s.heap.objs.size ≠ x1 := (Nat.ne_of_lt (Heap.lt_size gx)).symm
  unfold unpackItems
  apply wpAny_bind
  unfold notIterableAtAll
  apply wpAny_bind; refine wpAny_specialOf ht.typeIs slot_tuple_iter.lookup ?_
  apply wpAny_pure
  simp only [Bool.false_eq_true, if_false]
  apply wpAny_bind; apply wpAny_holding; refine iter_tuple ht ?_
  apply wpAny_bind; apply wpAny_holding
  refine draw_tuple ne items.size 0 _ _ ⟨_, Heap.get?_push_size _ rfl, rfl, rfl⟩ (ht.push _) (by omega) fun g1 i1 s1 => ?_
  have all : List.take items.size (List.drop 0 items.toList) = items.toList := by
    rw [List.drop_zero]; exact List.take_of_length_le (by simp)
  rw [all, if_neg (by simp)]
  have t1 : IsTup g1 t items := (ht.push _).extBut s1.extBut ne
  have gx1 : g1.get? x1 = some ox := s1.extBut _ _ nx.symm (Heap.get?_push_of_some _ gx)
  apply wpAny_bind; apply wpAny_holding
  refine tup_end_hot ⟨hh, ox, vx, gx1, dx, cx⟩ i1 t1 (by simp) nx fun g2 e2 => ?_
  simp only [Option.isSome_none, Bool.false_eq_true, if_false]
  exact wpAny_pure (go g2 fun b o n e => e2 b o n (s1.extBut b o n (Heap.get?_push_of_some _ e)))
theorem pg_tupH {X : Cx} {K : PySem.W.Frag} {es : List Expr} {k : Nat} {t : TGs} {n : Nat} {pos : Pos} (hK : X.K = K) (hc : HotC X) (h : PGs X es t)
    (hn : (assignEach es X.env).length = n := by rfl) (hst : (assignEach es X.env).findIdx? (·.1) = none := by rfl) : PG X (.Tuple es k pos) (gTup K n t) := by
  subst hK
  constructor
  intro pins s σ H v u Q J r ⟨a, xs, e1, hq, hl, q⟩
  subst e1
  cases r
  obtain ⟨its, rv, ht, hz⟩ := J.tuple hq
  obtain ⟨x1, hot⟩ := hc.at J
  rw [arm_assign_Tuple]
  apply wpAny_bind; apply wpAny_standAt
  unfold unpack
  rw [show (assignEach es X.env).length = its.toArray.size by simp [hn, ← hl, rv.length], hst]
  apply wpAny_bind; apply wpAny_holding
  refine unpack_hot hot ht fun h2 hx => ?_
  have J1 : Inv X pins σ H { s with heap := h2 } := J.kept (t' := s.toks) fun b o e => hx b o (Nat.ne_of_lt (Heap.lt_size e)) e
  exact h.run pins _ σ H xs _ Q J1 (by simpa using rv) q
theorem turn_listH {P : Program} {w : World} {K : PySem.W.Frag} {tg : Expr} (a it : Addr) : TurnH P w K tg (Itl K a) [it] it (fun i h => h.IsListIter it a i) where
  mem := by simp
  obj := fun i h st b hb => by
    obtain rfl : b = it := by simpa using hb
    obtain ⟨o, e, c, d⟩ := st
    exact ⟨o, e, fun v z => by rw [d] at z; cases z⟩
  keep := fun i h h2 st kp => st.at fun o e => kp it (by simp) o e
  item := by
    intro X eP ew eK hc i pins s σ H E J fp st ⟨xs, x, hq, hx⟩
    subst eP ew eK
    obtain ⟨its, rv, p, hz⟩ := J.list hq
    obtain ⟨u, hu, ru⟩ := rv.get hx
    obtain ⟨f0, f1, f2, f3, f4, f5⟩ := fp it (by simp)
    refine wpAny_pyNext_list_item st p.isList (x := u) (by simpa using hu) fun h2 st2 sb => ?_
    have J1 : Inv X pins σ H { s with heap := h2 } := J.turned (t' := s.toks) (fun b o n e => (sb.2 b n).trans e) f0 f1 f3 f4 f5
    obtain ⟨o, e, c, d⟩ := id st2
    exact ⟨u, rfl, go_of (s := { s with heap := h2 }) e c d (by decide) ⟨x, H, J1, ru, ⟨rfl, fun ys hy => by rw [J.list_inj hy hq]; exact hx⟩, st2, fun b hb => (fp b hb).1⟩⟩
  done := by
    intro X eP ew eK hc i pins s σ H E J fp st ⟨xs, hq, hx⟩
    subst eP ew eK
    obtain ⟨its, rv, p, hz⟩ := J.list hq
    obtain ⟨f0, f1, f2, f3, f4, f5⟩ := fp it (by simp)
    have hl := rv.length
    obtain ⟨⟨x1, ox⟩, ⟨hh, v1, e1, c1⟩, hp⟩ := hc
    have P1 := J.pin (x1, ox) (List.mem_append_left _ hp)
    have n1 : it ≠ x1 := fun z => by
      have e1 : ox.data = .fields v1 := e1
      have c1 : v1[2]? = some .none := c1
      obtain ⟨o, e, c, d⟩ := st
      have g1 : s.heap.get? x1 = some ox := P1.1
      rw [← z, e] at g1
      cases g1
      rw [d] at e1
      cases e1
      simp at c1
    exact list_end_hot ⟨hh, ox, v1, P1.1, e1, c1⟩ st p.isList (by simp; omega) n1 fun h2 eb => ⟨rfl, J.turned (t' := s.toks) (fun b o n e => eb b o n e) f0 f1 f3 f4 f5⟩
  self := fun _ _ _ _ _ st q => wpAny_pyIter_listiter st q
theorem pi_listH {X : Cx} {K : PySem.W.Frag} {tg l : Expr} {tl : TE} (hK : X.K = K) (hl : PE X l tl) : PIH X tg l (iList K tl) := by
  subst hK
  constructor
  intro pins s σ H R J q
  refine thn (hl.run pins s σ H _ J q) fun v s1 ⟨x, H1, J1, r1, a, e, ⟨xs, hq⟩, q1⟩ => ?_
  subst e
  cases r1
  obtain ⟨its, rv, p, hz⟩ := J1.list hq
  refine wpAny_pyIter_list p.isList ⟨s1.heap.objs.size, [s1.heap.objs.size], _, _, H1, rfl, J1.kept (t' := s1.toks) fun b o e => Heap.get?_push_of_some _ e, turn_listH a _, ⟨_, Heap.get?_push_size _ rfl, rfl, rfl⟩, fun b hb => ?_, q1⟩
  obtain rfl : b = s1.heap.objs.size := by simpa using hb
  exact J1.fpOk (Nat.le_refl _) (J1.hok.fresh (Nat.le_refl _))
/-! ### rows that are not reached -/
theorem ps_dead {X : Cx} {st : Stmt} : PS X st (fun _ _ _ => False) := ⟨fun _ _ _ _ _ _ z => z.elim⟩
/-! ### raise, try .. except, where the context of what is raised is known -/
section
variable {X : Cx} {K : PySem.W.Frag} {x n : Str} {c : Value} {i : Nat} {body suite : List Stmt} {b₀ : Stmt} {np pos pos' : Pos} {tb : WX → TS} {ts : Addr → Value → Option Addr → TS} {Wout : WX}
theorem ps_raiseCN {W : WX} {e : Expr} {C : Addr} (hc : X.calm = true) (tk : L2N.Takes X W) (he : L2N.PMk X e (fun _ H Q => Q (.ref C) none H)) : PS X (.Raise (some e) none pos) (tRaiseC C W) := L2N.ps_raise hc tk he
theorem takes0N : L2N.Takes X (fun _ _ _ _ => False) := fun _ _ q => by
  obtain ⟨_, _, _, _, _, _, _, _, _, _, _, _, _, _, _, _, z⟩ := q
  exact z.elim
theorem passAN {σ : L2.St} : PassesAt (L2N.CX X.prog X.w) X σ (WE (fun _ _ _ _ => False) σ) := fun _ _ _ _ _ _ h => by
  obtain ⟨_, _, _, _, _, _, _, _, _, _, _, _, z⟩ := h
  exact z.elim
theorem ps_tryAsN (hK : X.K = K) (hs : X.stack = X.env :: X.outer) (hf : X.env.frame = some X.env.locals) (hN : X.N.Nodup) (hi : X.N[i]? = some n) (hln : X.env.kindOf n = some .local) (hc : Names X x c) (tk : L2N.Takes X Wout)
    (hb : ∀ (W : WX) (pn : List (Addr × Obj)) (xe : Value → Shared → Prop), L2N.Takes (X.tr pn xe) W → PassesOwn (model X.prog X.w) X.A X.env xe → PSs (X.tr pn xe) body (tb W))
    (hsu : ∀ (a : Addr) (oe : Obj) (cls : Value) (d : Option Addr) (pn : List (Addr × Obj)), L2N.Zn cls d oe → (∃ vs, oe.data = .fields vs) → PSs (X.suite a ((a, oe) :: pn)) (b₀ :: suite) (ts a cls d)) :
    PS X (.Try body [.ExceptHandler (some (.Name x np)) (some n) (b₀ :: suite) pos'] [] [] pos) (tTryAs K c i tb ts Wout) := by
  subst hK
  exact L2N.ps_try_as hs hf hN hi hln hc tk hb hsu
theorem ps_tryOnlyN (hK : X.K = K) (hs : X.stack = X.env :: X.outer) (hf : X.env.frame = some X.env.locals) (hc : Names X x c) (tk : L2N.Takes X Wout)
    (hb : ∀ (W : WX) (pn : List (Addr × Obj)) (xe : Value → Shared → Prop), L2N.Takes (X.tr pn xe) W → PassesOwn (model X.prog X.w) X.A X.env xe → PSs (X.tr pn xe) body (tb W))
    (hsu : ∀ (a : Addr) (oe : Obj) (cls : Value) (d : Option Addr) (pn : List (Addr × Obj)), L2N.Zn cls d oe → (∃ vs, oe.data = .fields vs) → PSs (X.suite a ((a, oe) :: pn)) (b₀ :: suite) (ts a cls d)) :
    PS X (.Try body [.ExceptHandler (some (.Name x np)) none (b₀ :: suite) pos'] [] [] pos) (tTryOnly K c tb ts Wout) := by
  subst hK
  exact L2N.ps_try_many hs hf tk hb (.cons hc hsu .nil)
end
/-! ### defs that are called there -/
theorem hot_suite {a : Addr} {oe : Obj} {cls : Value} {d : Option Addr} {pn : List (Addr × Obj)} {X : Cx} (hz : L2N.Zn cls d oe) (hf : ∃ vs, oe.data = .fields vs) : HotC (X.suite a ((a, oe) :: pn)) := by
  obtain ⟨vs, hv⟩ := hf
  exact ⟨(a, oe), ⟨rfl, vs, hv, hz.2.2 vs hv⟩, List.mem_cons_self⟩
theorem roomH_suite {k : Nat} {A : Around} {v : Option Value} (r : Room k A) : RoomH k (A.mark v) := ⟨r.dp, r.un⟩
section
variable {P : Program} {w : World} {K : PySem.W.Frag} {mg : Str → Option Value} {base : Heap}
theorem fnDH {x qual : Str} {st : Stmt} {f : Addr} {fd : FuncData} {N ps : List Str} {k : Nat} {S : DS} (F : Fun K x qual st f fd) (Sc : FnScope N ps (defScope st))
    (len : ∀ dvs o R X, S dvs o R X → dvs.length = ps.length)
    (hb : ∀ (cdv : Value) (A : Around) (outer : List Env) (s : Shared) (H : Hp) (E : XK) (p : Addr × Obj), Hot1 A p → RoomH k (A.deeper (envOfC qual (defScope st) s.heap.objs.size f cdv)) →
      ∃ t, PSs (cxH CX0 P w K mg base N qual (defScope st) f cdv A outer s H E p).nox (defBody st) t ∧ ∀ dvs o R X, S dvs o R X → XS (KN K) t (startD N.length dvs) o (fun _ o' => R (.d .none) o') (OutR R) (fun _ _ => False) (fun _ _ => False)) :
    FnH P w K mg base CX0 (k + 1) f fd ps (spD K S) := by
  obtain ⟨oc, od, kV, doc, pm, an, cdv, ct, osl, rfl, lk, hcd⟩ := F.ex
  refine fn_ofH lk hcd Sc (fun vs H Q E ⟨G, o, dvs, R, X, _, a, h, _⟩ => by rw [a.len]; exact len dvs o R X h) fun A outer s H vs Q E p hot hr ⟨G, o, dvs, R, X, wd, a, h, q, _⟩ => ?_
  obtain ⟨t, ht, hx⟩ := hb cdv A outer s H E p hot hr
  exact ⟨t, ht.nox, out_run (K := KN K) wd a q wo_none (hx dvs o R X h)⟩
/-- a def that may raise -/
theorem fnDXN {x qual : Str} {st : Stmt} {f : Addr} {fd : FuncData} {N ps : List Str} {k : Nat} {S : DS} (F : Fun K x qual st f fd) (Sc : FnScope N ps (defScope st))
    (len : ∀ dvs o R X, S dvs o R X → dvs.length = ps.length)
    (hb : ∀ (cdv : Value) (A : Around) (outer : List Env) (s : Shared) (H : Hp) (E : XK), Room k (A.deeper (envOfC qual (defScope st) s.heap.objs.size f cdv)) →
      ∃ t, PSs (cxOf (L2N.CX P w) P w K mg base N qual (defScope st) f cdv A outer s H E) (defBody st) t ∧ ∀ dvs o R X, S dvs o R X → XS ⟨K, fun cls d _ H => E cls d H, fun ex _ o' => X ex o'⟩ t (startD N.length dvs) o (fun _ o' => R (.d .none) o') (OutR R) (fun _ _ => False) (fun _ _ => False)) :
    FnOk P w K mg base (L2N.CX P w) (k + 1) f fd ps (spD K S) := by
  obtain ⟨oc, od, kV, doc, pm, an, cdv, ct, osl, rfl, lk, hcd⟩ := F.ex
  refine fn_of lk hcd Sc (fun vs H Q E ⟨G, o, dvs, R, X, _, a, h, _⟩ => by rw [a.len]; exact len dvs o R X h) fun A outer s H vs Q E hr ⟨G, o, dvs, R, X, wd, a, h, q, qx⟩ => ?_
  obtain ⟨t, ht, hx⟩ := hb cdv A outer s H E hr
  exact ⟨t, ht, out_run (K := ⟨K, fun cls d _ H => E cls d H, fun ex _ o' => X ex o'⟩) wd a q (fun cls fs d ρ' o' G' σ' H' z s e ok => qx cls fs d o' G' H' z (s.bare fun _ => noOwnS) e.wd ok) (hx dvs o R X h)⟩
theorem hot_cx {CX : CXT} {N : List Str} {qual : Str} {scope : Scope} {f : Addr} {cd : Value} {A : Around} {outer : List Env} {s : Shared} {H : Hp} {E : XK} {p : Addr × Obj} (h : Hot1 A p) : HotC (cxH CX P w K mg base N qual scope f cd A outer s H E p).nox := ⟨p, h, List.mem_singleton.mpr rfl⟩
theorem never_okH {k : Nat} {f : Addr} {fd : FuncData} {ps : List Str} : FnH P w K mg base CX0 k f fd ps (spD K (S_never K)) := ⟨fun vs H Q E ⟨G, o, dvs, R, X, wd, a, z, _⟩ => z.elim, fun A outer s H args us vs Q E p _ _ _ _ _ _ ⟨G, o, dvs, R, X, wd, a, z, _⟩ => z.elim⟩
end
section
variable {K : Kx} {ρ : List Sl} {o : Ob} {R : RD} {T : TA}
/-- a call in a suite of a def that does not raise -/
theorem xe_callH {S : DS} {W : L2.St → XK} (h : XAF K T ρ o fun dvs ρ1 o1 => S dvs o1 (fun dv o2 => R dv ρ1 o2) (fun _ _ => False)) : XE K (tCallS (spD K S) W T) ρ o R := fun G σ H e Q q =>
  h G σ H e _ fun vs dvs ρ1 o1 G1 H1 ⟨hd, r⟩ s1 e1 ok => call_run q hd r (fun cls fs d o2 G2 H2 z s2 e2 ek => z.elim) s1 e1 ok
theorem _root_.L2H.RoomH.units {A : Around} {k : Nat} (hr : RoomH k A) : A.units + 64 < cLine := by have := hr.un; omega
theorem hu_ofH {A : Around} {k : Nat} (hr : RoomH k A) : A.units + 1 < cLine := by have := hr.un; omega
theorem passH {X : Cx} {E : XK} {σ : L2.St} : PassesAt CX0 X σ E := fun _ _ _ _ _ _ h => h.elim
end
/-! ### xs[i] = .. -/
section
variable {K : Kx} {ρ : List Sl} {o : Ob} {N : RE}
theorem xg_subL {to ti : TE} {d : PyData} (h : DL.XE K to ρ o fun a ρ1 o1 => DL.XE K ti ρ1 o1 fun b ρ2 o2 => ∃ i ds n m, a = .sl i (.lst ds) ∧ b = .d (.int n) ∧ ρ2[i]? = some (.own (.lst ds)) ∧ ixN ds.length n = some m ∧ N (ρ2.set i (.own (.lst (ds.set m d)))) o2) :
    XG K (gSub to ti rSetL) (.d d) ρ o N := fun G σ H v e ok Q q =>
  h.seq e fun x a ρ1 o1 G1 H1 r1 s1 e1 ok1 fr1 => r1.seq e1 fun u b ρ2 o2 G2 H2 ⟨i, ds, n, m, ha, hb, hi, hx, r2⟩ s2 e2 ok2 fr2 => by
    subst ha hb
    have k1 := (ok1.step s2 (show DL.Kept ρ2 (.sl i (.lst ds)) from hi)).1
    cases vok_int ok2
    obtain ⟨p, y, k2, g2, h2, okc, nf⟩ := e2.own_at hi
    rw [k2] at k1
    cases k1
    obtain ⟨xs, rfl⟩ : ∃ xs, y = .lst xs := by cases y <;> first | exact ⟨_, rfl⟩ | exact okc.elim
    have okc : RpAll K G2 xs ds := okc
    have s12 := s1.trans s2
    have ok3 : COk K G2 (.lst (xs.set m v)) (.lst (ds.set m d)) := RpAll.set (Rp.sub s12.g ok) m okc
    exact ⟨p, xs, n, m, rfl, rfl, h2, by rw [okc.len]; exact hx, q _ _ _ _ _ r2 (s12.trans (e2.mut hi k2 ok3).2) (e2.mut hi k2 ok3).1⟩
end
end DL

set_option Elab.async false
set_option linter.all false
set_option maxRecDepth 100000
set_option maxHeartbeats 1000000
namespace PySem.W
open PySem PySem.Spec PySem.Calls PyProof.Rows
section
variable {prog : Program} {w : World} {A : Around} {E : Value → Shared → Prop} {s : Shared} {K : Frag} {x D : Addr} {ox : Obj} {od : Option Obj}
theorem dl_findObj {C : Addr} {name : Str} {a g : Value} (hc : (clsIn K C).isSome = true) (ha : findIn K (.ref C) name = some (some a)) (hg : specialIn K a "__get__" = some (some g)) (ht : takesIn K a = some true) : findObj K C od name = some (.bind g a) := by
  obtain ⟨cd, hc⟩ := Option.isSome_iff_exists.mp hc
  unfold findObj
  rw [hc, Option.bind_some, ha, Option.bind_some]
  simp [hg, ht]
theorem dl_classE {Q : Option Value → Shared → Prop} (C : L2.ExcC K D) (X : K.In s.heap) (I : InstAt s.heap x ox D od) (h : Q (some (.ref D)) { s with toks := s.toks + 1 }) : wpAny (model prog w) A (getAttr? (.ref x) "__class__") Q E s := by
  have hf : findObj K D od "__class__" = some (.bind (.builtin "getset_descriptor.__get__") (.builtin "object.__class__")) := dl_findObj (by obtain ⟨cd, hc, _⟩ := any_some C.hd; rw [hc]; rfl) C.ha C.hn C.ht
  obtain ⟨hp, g, d, t, os⟩ := s
  have M0 := I.type (M := model prog w)
  have M1 := looks_findIn (M := model prog w) X C.hg
  have M2 := looks_findIn (M := model prog w) X C.hk
  have M3 := looks_find (M := model prog w) X I hf
  have isE : Looks (model prog w) hp (isInstance (.ref x) (.type "BaseException")) true := M0.andThen (looks_subIn X C.hs)
  have z2 : (Value.builtin "BaseException.__getattribute__" == Value.builtin "object.__getattribute__") = false := by decide +kernel
  have z1 : (onTheHeap (Value.ref D) && Value.builtin "BaseException.__getattribute__" == Value.builtin "object.__getattribute__") = false := by rw [z2]; rfl
  unfold getAttr? getAttrBy? getAttrBy
  apply wpAny_bind; refine wpAny_mkText ?_
  apply wpAny_bind; apply wpAny_attempt; apply wpAny_holding
  apply wpAny_bind; refine M0.at ?_
  apply wpAny_bind; refine M1.at ?_
  show wpAny _ _ (if (onTheHeap (Value.ref D) && Value.builtin "BaseException.__getattribute__" == Value.builtin "object.__getattribute__") = true then _ else _) _ _ _
  rw [z1, if_neg Bool.false_ne_true]
  unfold getAttrByItsOwn hookBefore
  apply wpAny_bind
  rw [if_pos (show onTheHeap (Value.ref D) = true from rfl)]
  refine M2.at ?_
  apply wpAny_bind; apply wpAny_attempt; apply wpAny_holding
  unfold callGetattribute
  rw [show (false && onTheHeap (Value.builtin "BaseException.__getattribute__")) = false from rfl, if_neg Bool.false_ne_true]
  unfold boundAndCalled
  rw [PySem.F.excAttr_ValueError.ga.bind (.ref x)]
  apply wpAny_bind; apply wpAny_pure
  show wpAny _ _ (call (.builtin "BaseException.__getattribute__") [.ref x, .str "__class__" t]) _ _ _
  apply wpAny_call
  refine codeAny_call_builtin PySem.F.excAttr_ValueError.ga.plain PySem.F.entry_bexc_ga ?_
  refine @check_slot (model prog w) _ _ ⟨hp, g, d, t + 1, os⟩ "BaseException.__getattribute__" "BaseException" "__getattribute__" (.ref x) [.str "__class__" t] [] _ (by decide +kernel) (by decide +kernel) isE (PySem.F.args_bexc_ga (.ref x) (.str "__class__" t)) ?_
  unfold Builtin.«object.__getattribute__»
  refine wpAny_bind (wpAny_of_eq (a := ((Value.ref x : Value), [Value.str "__class__" t])) (by first | rfl | (simp only [slotArgs]; rfl)) ?_)
  apply wpAny_bind; apply wpAny_pure
  apply wpAny_bind; refine M0.at ?_
  apply wpAny_bind; refine M3.at ?_
  show wpAny _ _ (holding [Value.builtin "object.__class__"] (call (.builtin "getset_descriptor.__get__") [.builtin "object.__class__", .ref x, .ref D]) >>= ret) _ _ _
  apply wpAny_bind; apply wpAny_holding; apply wpAny_call
  refine class_get (s := ⟨hp, g, d, t + 1, os⟩) (ox := ox) (od := od) X I C.hm ?_
  apply wpAny_pure
  show wpAny _ _ (handedOut (.ref D)) _ _ _
  rw [handedOut_of (v := .ref D) rfl]
  first
    | exact wpAny_pure (wpAny_pure h)
    | exact wpAny_pure h
    | exact wpAny_pure (wpAny_bind (wpAny_pure (wpAny_pure h)))
theorem dl_kitx (C : L2.ExcC K D) : KitX K (.ref x) (.ref D) (fun h => ∃ ox od, InstAt h x ox D od) where
  ty := fun _ _ _ ⟨_, _, I⟩ => I.type
  it := fun _ _ X _ => by
    obtain ⟨cd, hcd, _⟩ := any_some C.hd
    unfold clsIn at hcd
    split at hcd
    · rename_i _ _ _ _ ho
      intro A2 Q2 E2 s2 k q
      unfold isType loadHead
      apply wpAny_bind
      exact wpAny_loadPart (k _ _ (X _ _ ho)) (wpAny_pure q)
    · cases hcd
  ne := (handS_kitx_exc (x := x) (ox := { cls := .none, data := .seq #[] }) C.hg C.hk C.hs C.hd C.ha C.hn C.ht C.hm).ne
  ca := fun X ⟨_, _, I⟩ k => dl_classE C X I k
end
end PySem.W
namespace DL
open PySem PySem.Spec PyProof.Rows L2 TL HotX L2H
/-! ### errors with two fields -/
/-- the promise of an __init__ that stores two fields -/
def spI2 (C : Addr) (f1 f2 : Str) : Sp := fun vs H Q _ => ∃ (a : Addr) (v1 v2 : V), vs = [.ref a, v1, v2] ∧ H a = some (exo a C none) ∧
  ∀ d, H d = none → d ≠ a → Q .non (upd (upd (upd H d (exd d [(f1, v1)])) a (exo a C (some d))) d (exd d [(f2, v2), (f1, v1)]))
section
variable {X : Cx} {e : Expr} {es : List Expr} {ta : TA} {p pos : Pos}
theorem pmk_oexN {CX : CXT} {x : Str} {C fI : Addr} {k : Nat} {fd : FuncData} {ps : List Str} {sp : Sp} (T : OexC X.K C) (iC : PySem.W.findIn X.K (.ref C) "__init__" = some (some (.ref fI))) (tI : PySem.W.typeIn X.K (.ref fI) = some (.type "function"))
    (F1 : FnOk X.prog X.w X.K X.mg X.base CX k fI fd ps sp) (hr : Room (k + 1) X.A) (hb : Binds X.K fd ps []) (hx : Passes CX X (fun _ _ _ => False)) (hg : Gl X x) (hm : X.mg x = some (.ref C)) (ha : PA X (e :: es) ta)
    (hdb : (x == ("__debug__" : Str)) = false := by decide) (hpl : (backTo pos (starEach es X.env)).any (·.1) = false := by rfl) (he : starEach (e :: es) X.env = (false, eval e X.env) :: starEach es X.env := by rfl) :
    L2N.PMk X (.Call (.Name x p) (e :: es) [] pos) (tMkO C sp [] ta) := by
  intro pins s σ H Q I h
  obtain ⟨nm, q, N, bs, bm, sn, sub, ab, col, dd, k0, k1, k2, k3, k5, hC, hbm⟩ := T.cls
  refine wpAny_Call_Name_kw (ld_glob I hg hm ?_ hdb)
  refine PySem.W.callWith_K (h₀ := X.base) I.ok.mod.kin T.kC (thn (ha.run pos pins s σ H _ I h) fun us s1 ⟨vs, H1, I1, r1, hz, q1⟩ => ⟨I1.kIn, ?_⟩) he hpl
  show wpAny _ _ (call (.ref C) us) _ _ _
  obtain ⟨hp, g, dr, tk, os⟩ := s1
  have le1 : hp.objs.size ≤ hp.objs.size + 1 := Nat.le_succ _
  have new : H1 (hp.objs.size + 1) = none := I1.hok.fresh le1
  have hq := q1 (hp.objs.size + 1) new
  have up : ∀ b o, hp.get? b = some o → ((hp.push (PySem.W.kdv_tup us)).push (PySem.HandSPX.excO C hp.objs.size)).get? b = some o := fun b o z => Heap.get?_push_of_some _ (Heap.get?_push_of_some _ z)
  have at1 : ((hp.push (PySem.W.kdv_tup us)).push (PySem.HandSPX.excO C hp.objs.size)).get? (hp.objs.size + 1) = some (PySem.HandSPX.excO C hp.objs.size) := by heap_get
  have I2 : Inv X pins σ (upd H1 (hp.objs.size + 1) (exo (hp.objs.size + 1) C none)) ⟨(hp.push (PySem.W.kdv_tup us)).push (PySem.HandSPX.excO C hp.objs.size), g, dr, tk, os⟩ :=
    I1.laid (t' := tk) (a := hp.objs.size + 1) (o := exo (hp.objs.size + 1) C none) (h' := (hp.push (PySem.W.kdv_tup us)).push (PySem.HandSPX.excO C hp.objs.size)) up le1 (exo_ok at1)
  have r2 : Vals (V.ref (hp.objs.size + 1) :: (vs ++ [])) (Value.ref (hp.objs.size + 1) :: (us ++ [])) := .cons rfl (r1.append .nil)
  have hl : (Value.ref (hp.objs.size + 1) :: us ++ []).length = ps.length := by
    have z := r2.length
    rw [F1.len _ _ _ _ hq] at z
    exact z.symm
  have small : us.length ≤ sizeLine := by
    rw [← Paired.length r1, sizeLine_eq]
    omega
  have b2 : BindsTo ⟨(hp.push (PySem.W.kdv_tup us)).push (PySem.HandSPX.excO C hp.objs.size), g, dr, tk, os⟩ fd ⟨Value.ref (hp.objs.size + 1) :: us, []⟩ (ps.zip (Value.ref (hp.objs.size + 1) :: (us ++ []))) := by
    have z := hb _ (Value.ref (hp.objs.size + 1) :: us) I2.kIn hl
    rwa [List.cons_append] at z
  refine wpAny_call (PySem.HandSPX.call_own F.excBase_ValueError (fun Y => PySem.HandSPX.refsVE_contains Y bm hbm) (I1.kIn _ _ hC) (PySem.W.looks_findIn I1.kIn iC) (fun self => PySem.W.bind_fn I1.kIn self tI) small
    (codeAny_mono (F1.run _ X.stack _ _ ⟨Value.ref (hp.objs.size + 1) :: us, []⟩ (Value.ref (hp.objs.size + 1) :: (us ++ [])) _ _ (fun _ _ _ => False) (hr.make C us []) (I2.env0.make C us []) b2 r2 hq) fun r s2 hq2 => ?_))
  cases r with
  | error er => exact hx pins σ _ _ er s2 I2 hq2
  | ok fl =>
    cases fl with
    | ret u =>
      obtain ⟨v, H2, os2, bare2, un2, hok2, rv, ev, d, fs, ea, ed, hd1, q2⟩ := hq2
      subst ev
      obtain ⟨h2, g2, d2, t2, os3⟩ := s2
      obtain ⟨t0, G, J, kG, ge, hoe, na⟩ := mk_end0 (d2 := d2) (t2 := t2) I1 le1 up un2 hok2 os2 bare2 ea ed hd1
      refine ⟨rv, hp.objs.size + 1, _, _, ⟨G, g2, d2, t2, os3⟩, _, .ref C, some d, rfl, J, kG, ge, hoe, ⟨rfl, rfl, fun vs hv => ?_⟩, rfl, rfl, na, rfl, bare2, raises_own T.exC T.tyC, q2⟩
      cases hv
      rfl
    | next => exact False.elim hq2
    | brk => exact False.elim hq2
    | cont => exact False.elim hq2
def tRaiseO (C : Addr) (f1 f2 : Str) (W : WX) (ta : TA) : TS := fun _ σ H => tMkO C (spI2 C f1 f2) [] ta σ H fun cls d H' => W cls d σ H'
theorem ps_raiseON {W : WX} {C : Addr} {f1 f2 : Str} {pos2 : Pos} (hc : X.calm = true) (tk : L2N.Takes X W) (he : L2N.PMk X e (tMkO C (spI2 C f1 f2) [] ta)) : PS X (.Raise (some e) none pos2) (tRaiseO C f1 f2 W ta) := L2N.ps_raise hc tk he
end
section
variable {P : Program} {w : World} {K : PySem.W.Frag} {mg : Str → Option Value} {base : Heap}
/-- an __init__ of two rows self.f = v -/
theorem init2_ok {st : Stmt} {f C : Addr} {fd : FuncData} {x qual n1 n2 f1 f2 : Str} {k : Nat} {N ps : List Str} (F : Fun K x qual st f fd) (Sc : FnScope N ps (defScope st)) (hps : ps.length = 3) (hN : N.length = 3) (T : OexC K C) (h1 : PySem.W.findIn K (.ref C) f1 = some none) (h2 : PySem.W.findIn K (.ref C) f2 = some none)
    (hb : ∀ (cdv : Value) (A : Around) (outer : List Env) (s : Shared) (H : Hp) (E : XK), PSs (cxOf CX0 P w K mg base N qual (defScope st) f cdv A outer s H E).nox (defBody st) (tSeq (tOst K f1 (tVar 0) (tVar 1)) (tOst K f2 (tVar 0) (tVar 2)))) :
    FnOk P w K mg base CX0 (k + 1) f fd ps (spI2 C f1 f2) := by
  refine F.ok Sc (fun vs H Q E ⟨a, v1, v2, ev, _⟩ => by rw [ev, hps]; rfl) fun cdv A outer s H vs Q E hr ⟨a, v1, v2, ev, ha, q⟩ => ⟨_, hb cdv A outer s H E, ?_⟩
  subst ev
  have e0 : L2.start N [.ref a, v1, v2] = [some (.ref a), some v1, some v2] := by
    unfold L2.start
    rw [hN]
    rfl
  rw [e0]
  refine ⟨v1, rfl, .ref a, rfl, a, C, rfl, T, h1, .inl ⟨ha, fun d hd da => ?_⟩⟩
  refine ⟨v2, rfl, .ref a, rfl, a, C, rfl, T, h2, .inr ⟨d, [(f1, v1)], upd_same, by rw [upd_ne da, upd_same], by show 1 ≤ 900; decide, q d hd da⟩⟩
end
section
variable {K : Kx} {ρ ρ' : List Sl} {o o' : Ob} {R : RD} {N B C' : RE} {T : TA} {C : Addr} {f1 f2 : Str} {te : TE}
theorem xs_raiseO (h : XAF K T ρ o fun dvs ρ1 o1 => ∃ d1 d2 : PyData, dvs = [.d d1, .d d2] ∧ K.Z (.ref C, some [(f2, d2), (f1, d1)]) ρ1 o1) : XS K (tRaiseO C f1 f2 K.W T) ρ o N R B C' := fun G σ H e D qn qr qb qc =>
  h G σ H e _ fun vs dvs ρ1 o1 G1 H1 ⟨_, d1, d2, hd, z⟩ s1 e1 ok => by
    subst hd
    obtain ⟨v1, v2, rfl, k1, k2⟩ := va2 ok
    refine ⟨by show 2 ≤ 1000; decide, fun a ha => ⟨a, v1, v2, rfl, upd_same, fun d hd da => ⟨rfl, d, _, by rw [upd_ne da.symm, upd_same], upd_same, ?_, ?_⟩⟩⟩
    · rw [upd_ne da] at hd; exact hd
    · have hd1 : H1 d = none := by rw [upd_ne da] at hd; exact hd
      have eq : upd (del (upd (upd (upd (upd H1 a (exo a C none)) d (exd d [(f1, v1)])) a (exo a C (some d))) d (exd d [(f2, v2), (f1, v1)])) a) d (.xd [(f2, v2), (f1, v1)]) = upd H1 d (.xd [(f2, v2), (f1, v1)]) := by
        funext b
        by_cases hb : b = d
        · subst hb; rw [upd_same, upd_same]
        · rw [upd_ne hb, upd_ne hb]
          by_cases hba : b = a
          · subst hba; rw [del_same, ha]
          · rw [del_ne hba, upd_ne hb, upd_ne hba, upd_ne hb, upd_ne hba]
      rw [eq]
      have gd := e1.wd.gnone hd1
      have sb : Sub G1 (upd G1 d (.xd [(f2, v2), (f1, v1)])) := Sub.upd gd
      exact e1.wo (.ref C) _ (some d) ρ1 o1 _ σ _ z (Stp.newF e1.wd hd1) (e1.newF hd1).toEnB ⟨_, upd_same, rfl, .cons (Rp.sub sb k2) (.cons (Rp.sub sb k1) .nil)⟩
/-- the fields of the error that a suite holds, beside the objects -/
def exIn (K : PySem.W.Frag) (d : Addr) (fs : List (Str × PyData)) (o : Ob) : Ob where
  fp := o.fp
  ok := fun G H => o.ok G H ∧ EOk K G H (some d) (some fs)
  st := fun G H G' H' ⟨h1, vs, h2, h3, h4⟩ s h => ⟨o.st G H G' H' h1 s h, vs, s _ _ h2, h3, RpAll.sub s h4⟩
theorem exIn_le {d : Addr} {fs : List (Str × PyData)} {K : PySem.W.Frag} : Ob.le (exIn K d fs o) o := ⟨fun _ => Iff.rfl, fun _ _ h => h.1⟩
theorem EnB.exIn {G H : Hp} {σ : L2.St} {d : Addr} {fs : List (Str × PyData)} (e : EnB K o ρ G σ H) (ek : EOk K G H (some d) (some fs)) : EnB K (exIn K.K d fs o) ρ G σ H ∧ Stp ρ σ o G H ρ σ (DL.exIn K.K d fs o) G H :=
  ⟨⟨⟨e.wd.sub, e.wd.nfp, e.wd.occ, ⟨e.wd.ok, ek⟩⟩, e.len, e.sl, e.dis, e.onf⟩, ⟨Sub.refl, fun _ _ h _ _ => h, fun _ h _ _ _ => h, fun _ h => .inl h, fun _ h => .inl h⟩⟩
variable {c : Value} {i : Nat} {tb : WX → TS} {ts : Addr → Value → Option Addr → TS}
theorem xs_tryAsF (Z : Ex → RE) (hb : ∀ W : WX, XS ⟨K.K, W, Z⟩ (tb W) ρ o N R B C') (hn : ∀ cls ρ' o', ¬ Z (cls, none) ρ' o') (hs : ∀ cls fs ρ' o', Z (cls, some fs) ρ' o' → ∃ b, PySem.W.exmOne K cls c = some b ∧
      (b = true → ∀ a d, Nat.blt i ρ'.length = true ∧ XS K (ts a cls (some d)) (ρ'.set i (.raw (.ref a))) (exIn K.K d fs o') (fun ρ2 o2 => Nat.blt i ρ2.length = true ∧ N (ρ2.set i .no) o2) R (fun ρ2 o2 => Nat.blt i ρ2.length = true ∧ B (ρ2.set i .no) o2) (fun ρ2 o2 => Nat.blt i ρ2.length = true ∧ C' (ρ2.set i .no) o2)) ∧ (b = false → K.Z (cls, some fs) ρ' o')) :
    XS K (tTryAs K c i tb ts K.W) ρ o N R B C' := fun G σ H e D qn qr qb qc => by
  have wo : WOk ⟨K.K, wAs K.K c i ts K.W D, Z⟩ o ρ G σ H := fun cls fs d ρ' o' G' σ' H' z s e' ek => by
    cases fs with
    | none => exact absurd z (hn _ _ _)
    | some fs =>
    cases d with
    | none => exact ek.elim
    | some d =>
    obtain ⟨b, hb, ht, hf⟩ := hs cls fs ρ' o' z
    refine ⟨b, hb, fun h a _ => ?_, fun h => e.wo cls (some fs) (some d) ρ' o' G' σ' H' (hf h) s e' ek⟩
    obtain ⟨hl, x⟩ := ht h a d
    obtain ⟨e2, s2⟩ := EnB.exIn (K := K) ⟨e'.wd, e'.len, e'.sl, e'.dis, e'.onf⟩ ek
    have s02 := s.trans s2
    obtain ⟨e3, s3⟩ := En.store (K := K) ⟨e2, e.wo.step s02⟩ (lt_of_blt hl) (v := .ref a) (s := .raw (.ref a)) rfl (fun c z => nomatch z)
    have s03 := s02.trans s3
    exact x G' _ H' e3 _ (fun _ _ _ _ _ ⟨hl, n⟩ s2 e2 => qn _ _ _ _ _ n ((s03.trans s2).trans (e2.unset (lt_of_blt hl)).2) (e2.unset (lt_of_blt hl)).1) (fun _ _ _ _ _ _ _ n s2 e2 ok fr => qr _ _ _ _ _ _ _ n (s03.trans s2) e2 ok (fr.back s03))
      (fun _ _ _ _ _ ⟨hl, n⟩ s2 e2 => qb _ _ _ _ _ n ((s03.trans s2).trans (e2.unset (lt_of_blt hl)).2) (e2.unset (lt_of_blt hl)).1) (fun _ _ _ _ _ ⟨hl, n⟩ s2 e2 => qc _ _ _ _ _ n ((s03.trans s2).trans (e2.unset (lt_of_blt hl)).2) (e2.unset (lt_of_blt hl)).1)
  have up : ∀ {ρ' o' G' σ' H'}, Stp ρ σ o G H ρ' σ' o' G' H' → En ⟨K.K, wAs K.K c i ts K.W D, Z⟩ o' ρ' G' σ' H' → En K o' ρ' G' σ' H' := fun s e' => ⟨e'.toEnB, e.wo.step s⟩
  exact hb _ G σ H ⟨e.toEnB, wo⟩ D (fun _ _ _ _ _ n s e => qn _ _ _ _ _ n s (up s e)) (fun _ _ _ _ _ _ _ n s e ok fr => qr _ _ _ _ _ _ _ n s (up s e) ok fr) (fun _ _ _ _ _ n s e => qb _ _ _ _ _ n s (up s e)) (fun _ _ _ _ _ n s e => qc _ _ _ _ _ n s (up s e))
/-- e.f in the suite -/
theorem xe_xf {a d : Addr} {cls : Value} {f : Str} {fs : List (Str × PyData)} {x : PyData} (hc : cls = .ref C) (l : fs.lookup f = some x) (h : XE K te ρ o fun dv ρ1 o1 => dv = .raw (.ref a) ∧ ∃ o2, o1 = exIn K.K d fs o2 ∧ R (.d x) ρ1 o1) : XE K (tXf a cls (some d) C f te) ρ o R := fun G σ H e Q q =>
  h.seq e fun v dv ρ1 o1 G1 H1 ⟨hd, o2, ho, r⟩ s1 e1 ok1 fr1 => by
    subst hd ho
    have ok1 : v = .ref a := ok1
    obtain ⟨vs, g1, nm, rp⟩ := e1.wd.ok.2
    have key : ∀ (vs : List (Str × V)) (fs : List (Str × PyData)), vs.map (·.1) = fs.map (·.1) → RpAll K.K G1 (vs.map (·.2)) (fs.map (·.2)) → fs.lookup f = some x → ∃ v, vs.lookup f = some v ∧ Rp K.K G1 v x := by
      intro vs
      induction vs with
      | nil => intro fs nm rp l; cases fs with
        | nil => cases l
        | cons _ _ => cases nm
      | cons p r ih => intro fs nm rp l; cases fs with
        | nil => cases nm
        | cons q t =>
          obtain ⟨n, v⟩ := p
          obtain ⟨m, y⟩ := q
          injection nm with nm1 nm2
          have nm1 : n = m := nm1
          subst nm1
          cases rp with
          | cons r1 r2 =>
            by_cases hf : f = n
            · subst hf
              have l : some y = some x := by simpa [List.lookup] using l
              cases l
              exact ⟨v, by simp [List.lookup], r1⟩
            · have hb : (f == n) = false := by simpa using hf
              obtain ⟨v2, q1, q2⟩ := ih t nm2 r2 (by simpa [List.lookup, hb] using l)
              exact ⟨v2, by simpa [List.lookup, hb] using q1, q2⟩
    obtain ⟨v2, q1, q2⟩ := key vs fs nm rp l
    exact ⟨ok1, hc, d, vs, v2, rfl, e1.wd.sub _ _ g1, q1, q _ _ _ _ _ _ r s1 e1 q2 trivial⟩
end
theorem pe_xfN {X : Cx} {a C : Addr} {oe : Obj} {cls : Value} {d : Option Addr} {pn : List (Addr × Obj)} {e : Expr} {te : TE} {pos : Pos} {n : Str} (T : XfC X.K C) (hno : PySem.W.findIn X.K (.ref C) n = some none)
    (hz : L2N.Zn cls d oe) (hf : ∃ vs, oe.data = .fields vs) (he : PE (X.suite a ((a, oe) :: pn)) e te) (hb : attributeBase e n X.env (eval e X.env) = eval e X.env := by rfl) :
    PE (X.suite a ((a, oe) :: pn)) (.Attribute e n pos) (tXf a cls d C n te) := pe_xf T hno hz.zc hf he hb
/-! ### isinstance of such an error -/
def rIsF (K : PySem.W.Frag) (cls : Value) (d : Option Addr) (a : Addr) : List V → Hp → VK → Prop := fun xs H Q => ∃ (D dd : Addr) (fs : List (Str × V)) (c : V) (cv : Value) (b : Bool), cls = .ref D ∧ d = some dd ∧ H dd = some (.xd fs) ∧ ExcC K D ∧ xs = [.ref a, c] ∧ (∀ u, RelV c u → u = cv) ∧ PySem.W.kitOne K (.ref D) cv = some b ∧ Q (.bl b) H
theorem call_isF {X : Cx} {K : PySem.W.Frag} {a : Addr} {d : Option Addr} {cls : Value} {oe : Obj} {pn : List (Addr × Obj)} (hK : X.K = K) (hz : L2N.Zn cls d oe) (hf : ∃ vs, oe.data = .fields vs) : CallR (X.suite a ((a, oe) :: pn)) (.builtin "isinstance") (rIsF K cls d a) := by
  subst hK
  intro pins s σ H xs us Q I r ⟨D, dd, fs, c, cv, b, hc, ed, hd, C, hxs, hcv, e, q⟩
  subst hxs hc ed
  cases r with
  | cons rx rr =>
    cases rr with
    | cons rt rr =>
      cases rr
      cases rx
      have ec := hcv _ rt
      subst ec
      obtain ⟨hget, _⟩ := I.pin (a, oe) (List.mem_append.mpr (.inl List.mem_cons_self))
      obtain ⟨vs, hv⟩ := hf
      have hx : ObjOk X.prog X.w H s.heap dd (.xd fs) := I.hok dd _ hd
      obtain ⟨mA, hns, _⟩ := hx
      obtain ⟨od, ho, _⟩ := lookIn_ns hns
      have J : PySem.W.InstAt s.heap a oe D (some od) := ⟨hget, hz.1, by unfold PySem.W.notCls; rw [hv] <;> rfl, by rw [hz.2.1]; exact ho⟩
      exact PySem.W.kia_one (PySem.W.dl_kitx C) I.kIn ⟨_, _, J⟩ e (fun z => nomatch z) fun tk => ⟨.bl b, H, I.kept (t' := tk) fun _ _ z => z, rfl, q⟩
section
variable {K : Kx} {ρ : List Sl} {o : Ob} {R : RD} {D a d : Addr} {cls : Value}
theorem xc_isFR {E : Addr} {b : Bool} {fs : List (Str × PyData)} (hc : cls = .ref D) (C : ExcC K.K D) (h : PySem.W.kitOne K.K (.ref D) (.ref E) = some b) (r : R (.d (.bool b)) ρ (exIn K.K d fs o)) : XC K (rIsF K.K cls (some d) a) [.raw (.ref a), .raw (.ref E)] ρ (exIn K.K d fs o) R := fun G σ H vs e h0 Q q => by
  obtain ⟨v, u, rfl, h1, h2⟩ := va2 h0
  have h1 : v = .ref a := h1
  have h2 : u = .ref E := h2
  subst h1 h2
  obtain ⟨ws, g1, _, _⟩ := e.wd.ok.2
  exact ⟨D, d, ws, _, _, b, hc, rfl, e.wd.sub _ _ g1, C, rfl, fun u r => r, h, xq_now q e r (.bl _)⟩
end
/-! ### attributes, with the written part told -/
section
variable {X : Cx} {K : PySem.W.Frag} {o e value : Expr} {f : Str} {pos pos' tpos : Pos} {ta tv : TE}
theorem pe_fldK (hK : X.K = K) (he : PE X e ta) (hb : attributeBase e f X.env (eval e X.env) = eval e X.env) : PE X (.Attribute e f pos) (tFld K ta f) := hK ▸ pe_fld he hb
theorem ps_fldK (hK : X.K = K) (ha : PE X o ta) (hv : PE X value tv) (hs : swapsWith value (some (.Attribute o f pos')) pos.line X.env = pure false) : PS X (.Assign [.Attribute o f pos'] value pos) (sFld K ta tv f) := hK ▸ ps_fld ha hv hs
theorem ps_fldaugK {op : Operator} {rd : V → V → Hp → VK → Prop} (hK : X.K = K) (ha : PE X o ta) (hv : PE X value tv) (hop : InOp X op rd) : PS X (.AugAssign (.Attribute o f tpos) op value pos) (sFldAug K ta tv rd f) := hK ▸ ps_fldaug ha hv hop
theorem ps_ostK (hK : X.K = K) (h : PS X (.Assign [.Attribute o f pos'] value pos) (tOst X.K f ta tv)) : PS X (.Assign [.Attribute o f pos'] value pos) (tOst K f ta tv) := hK ▸ h
end
/-! ### the same, the instance in a slot -/
section
variable {K : Kx} {ρ : List Sl} {o : Ob} {R : RD} {N B C' : RE} {tv : TE} {T : TA} {C a dx : Addr} {fs : Fls} {f m : Str} {i : Nat}
theorem xe_fldV {d : PyData} (c : Cls K C) (n : NoAttr K C f) (hi : ρ[i]? = some (.raw (.ref a))) (l : fs.lookup f = some d) (h : R (.d d) ρ (insOb K C a dx fs)) : XE K (tFld K (tVar i) f) ρ (insOb K C a dx fs) R := xe_fldO c n l (xe_vr hi ⟨rfl, rfl, h⟩)
theorem xs_fldV (c : Cls K C) (n : NoAttr K C f) (h : XEF K tv ρ o fun dv ρ1 o1 => ∃ d fs, dv = .d d ∧ ρ1[i]? = some (.raw (.ref a)) ∧ o1 = insOb K C a dx fs ∧ Nat.ble fs.length 900 = true ∧ N ρ1 (insOb K C a dx (putFD f d fs))) : XS K (sFld K (tVar i) tv f) ρ o N R B C' := fun G σ H e D qn qr qb qc =>
  XE.seq h e fun y dv ρ1 o1 G1 H1 ⟨d, fs, hd, hi, ho, hl, n2⟩ s1 e1 ok1 fr1 => by
    subst hd ho
    obtain ⟨ov, k1, k2⟩ := e1.sl i _ hi
    have k2 : ov = some (.ref a) := k2
    subst k2
    obtain ⟨vs, h1, h2, h3⟩ := e1.wd.ok
    have hlen := Nat.ble_eq.mp hl
    obtain ⟨st, en⟩ := ins_put (f := f) e1 h1 h2 h3 ok1
    exact ⟨.ref a, k1, a, C, dx, vs, rfl, h1, c, n, by rw [h3.len]; omega, qn _ _ _ _ _ n2 (s1.trans st) en⟩
theorem xs_fldAddV {j : Int} (c : Cls K C) (n : NoAttr K C f) (hi : ρ[i]? = some (.raw (.ref a))) (l : fs.lookup f = some (.int j)) (hl : Nat.ble fs.length 900 = true) (h : XE K tv ρ (insOb K C a dx fs) fun dv2 ρ2 o2 => ∃ k, dv2 = .d (.int k) ∧ o2 = insOb K C a dx fs ∧ N ρ2 (insOb K C a dx (putFD f (.int (j + k)) fs))) :
    XS K (sFldAug K (tVar i) tv rAdd f) ρ (insOb K C a dx fs) N R B C' := fun G σ H e D qn qr qb qc => by
  obtain ⟨ov, k1, k2⟩ := e.sl i _ hi
  have k2 : ov = some (.ref a) := k2
  subst k2
  obtain ⟨vs, h1, h2, h3⟩ := e.wd.ok
  rcases h3.look f with ⟨_, z⟩ | ⟨v, d', z1, z2, rv⟩
  · rw [z] at l; cases l
  rw [z2] at l
  cases l
  cases rv
  refine ⟨.ref a, k1, a, C, dx, vs, _, rfl, h1, c, n, z1, h.seq e fun y dv2 ρ2 o2 G2 H2 ⟨k, hd2, ho2, n2⟩ s2 e2 ok2 fr2 => ?_⟩
  subst hd2 ho2
  cases vok_int ok2
  obtain ⟨vs2, g1, g2, g3⟩ := e2.wd.ok
  have hlen := Nat.ble_eq.mp hl
  obtain ⟨st, en⟩ := ins_put (f := f) e2 g1 g2 g3 (.int (j + k))
  exact ⟨j, k, rfl, rfl, dx, vs2, g1, by rw [g3.len]; omega, qn _ _ _ _ _ n2 (s2.trans st) en⟩
theorem xs_fldSubV {j : Int} (c : Cls K C) (n : NoAttr K C f) (hi : ρ[i]? = some (.raw (.ref a))) (l : fs.lookup f = some (.int j)) (hl : Nat.ble fs.length 900 = true) (h : XE K tv ρ (insOb K C a dx fs) fun dv2 ρ2 o2 => ∃ k, dv2 = .d (.int k) ∧ o2 = insOb K C a dx fs ∧ N ρ2 (insOb K C a dx (putFD f (.int (j - k)) fs))) :
    XS K (sFldAug K (tVar i) tv rSub f) ρ (insOb K C a dx fs) N R B C' := fun G σ H e D qn qr qb qc => by
  obtain ⟨ov, k1, k2⟩ := e.sl i _ hi
  have k2 : ov = some (.ref a) := k2
  subst k2
  obtain ⟨vs, h1, h2, h3⟩ := e.wd.ok
  rcases h3.look f with ⟨_, z⟩ | ⟨v, d', z1, z2, rv⟩
  · rw [z] at l; cases l
  rw [z2] at l
  cases l
  cases rv
  refine ⟨.ref a, k1, a, C, dx, vs, _, rfl, h1, c, n, z1, h.seq e fun y dv2 ρ2 o2 G2 H2 ⟨k, hd2, ho2, n2⟩ s2 e2 ok2 fr2 => ?_⟩
  subst hd2 ho2
  cases vok_int ok2
  obtain ⟨vs2, g1, g2, g3⟩ := e2.wd.ok
  have hlen := Nat.ble_eq.mp hl
  obtain ⟨st, en⟩ := ins_put (f := f) e2 g1 g2 g3 (.int (j - k))
  exact ⟨j, k, rfl, rfl, dx, vs2, g1, by rw [g3.len]; omega, qn _ _ _ _ _ n2 (s2.trans st) en⟩
theorem xe_methV {S : DS} {E : XK} (hi : ρ[i]? = some (.raw (.ref a))) (lm : fs.lookup m = none) (h : XAF K T ρ (insOb K C a dx fs) fun dvs ρ2 o2 => S (.raw (.ref a) :: dvs) o2 (fun dv o3 => R dv ρ2 o3) (fun _ _ => False)) :
    XE K (tMeth C m (spD K S) [] E (tVar i) T) ρ (insOb K C a dx fs) R := xe_methO lm (xe_vr hi ⟨rfl, rfl, h⟩)
theorem xe_methWV {S : DS} (hi : ρ[i]? = some (.raw (.ref a))) (lm : fs.lookup m = none) (h : XAF K T ρ (insOb K C a dx fs) fun dvs ρ2 o2 => S (.raw (.ref a) :: dvs) o2 (fun dv o3 => R dv ρ2 o3) (fun ex o3 => K.Z ex ρ2 o3)) :
    XE K (tMethW C m (spD K S) (WE K.W) (tVar i) T) ρ (insOb K C a dx fs) R := xe_methW lm (xe_vr hi ⟨rfl, rfl, h⟩)
end
end DL

set_option Elab.async false
set_option linter.all false
set_option maxRecDepth 100000
namespace DL
open PySem PySem.Spec PyProof.Rows L2 TL
/-! ### the other of two objects -/
section
variable {K : Kx} {ρ : List Sl} {o A B : Ob} {R : RD} {N B' C : RE} {te ta tb tc : TE} {tt : TT} {i : Nat} {T : TA} {ts : TS}
theorem xe_conv (h : DL.XE K te ρ o fun dv ρ' o' => ∃ o2, Ob.le o' o2 ∧ R dv ρ' o2) : DL.XE K te ρ o R := fun G σ H e Q q =>
  h G σ H e Q fun v dv ρ' o1 G' H' ⟨o2, l, r⟩ s e' ok fr => q v dv ρ' o2 G' H' r (s.le l) (e'.le l) (ok.le l) fr
/-- the frame rule for the second object; the raised ones see both -/
theorem xe_and2 (h : DL.XE ⟨K.K, K.W, fun ex ρ o => K.Z ex ρ (o.and A)⟩ te ρ B fun dv ρ' B2 => R dv ρ' (A.and B2)) : DL.XE K te ρ (A.and B) R :=
  xe_obj and_comm_le (xe_conv (xe_frame (XE.mono h fun dv ρ' B2 r => ⟨A.and B2, and_comm_le, r⟩)))
/-- a name whose thing is an owned dict, first handed on: it stands beside the objects -/
theorem xf_pub {ps : DKv} (hi : ρ[i]? = some (.own (.dic ps))) (r : ∀ τ, R (.raw (.ref τ)) (ρ.set i (.raw (.ref τ))) (o.and (dicOb K.K τ ps))) : XEV K i ρ o R := fun G σ H e Q q => by
  obtain ⟨p, y, h1, h2, h3, ok, nf⟩ := e.own_at hi
  obtain ⟨kvs, rfl, kv⟩ := dic_rep ok
  have hl : i < ρ.length := (List.getElem?_eq_some_iff.mp hi).1
  have own : Own ρ σ p := ⟨i, ⟨_, hi⟩, h1⟩
  have back : ∀ j q, OwnAt (ρ.set i (.raw (.ref p))) σ j q → OwnAt ρ σ j q ∧ j ≠ i := fun j q ⟨⟨c, hc⟩, hs⟩ => by
    by_cases hj : j = i
    · subst hj; rw [List.getElem?_set_self hl] at hc; cases hc
    · rw [List.getElem?_set_ne (Ne.symm hj)] at hc; exact ⟨⟨⟨c, hc⟩, hs⟩, hj⟩
  have s0 : Stp ρ σ o G H (ρ.set i (.raw (.ref p))) σ (o.and (dicOb K.K p ps)) G H := ⟨Sub.refl, fun _ _ h _ _ => h, fun _ h _ _ _ => h, fun a ha => ha.elim .inl fun ha => .inr (.inr (by have : a = p := ha; rw [this]; exact own)), fun a ⟨j, hq⟩ => .inl ⟨j, (back j a hq).1⟩⟩
  have e2 : En K (o.and (dicOb K.K p ps)) (ρ.set i (.raw (.ref p))) G σ H := by
    refine ⟨⟨⟨e.wd.sub, fun a ha => ha.elim (e.wd.nfp a) fun ha => ?_, fun a ha => ha.elim (e.wd.occ a) fun ha => ?_, ⟨e.wd.ok, ⟨kvs, h3, kv⟩, fun a ha hb => ?_⟩⟩, by simpa using e.len, fun j s' hj => ?_, fun j k q a b => e.dis j k q (back j q a).1 (back k q b).1, fun q ⟨j, hq⟩ z => z.elim (fun z => e.onf q ⟨j, (back j q hq).1⟩ z) fun z => ?_⟩, e.wo.step s0⟩
    · have : a = p := ha
      rw [this]; exact h2
    · have : a = p := ha
      rw [this]; exact ⟨_, h3⟩
    · have : a = p := hb
      rw [this] at ha
      exact e.onf p own ha
    · by_cases hji : j = i
      · subst hji
        rw [List.getElem?_set_self hl] at hj
        cases hj
        exact ⟨_, h1, rfl⟩
      · rw [List.getElem?_set_ne (Ne.symm hji)] at hj
        exact e.sl j s' hj
    · have : q = p := z
      subst this
      exact (back j q hq).2 (e.dis j i q (back j q hq).1 ⟨⟨_, hi⟩, h1⟩)
  exact ⟨_, h1, q _ _ _ _ _ _ (r p) s0 e2 rfl trivial⟩
end
/-! ### a text that grows, in a dict -/
abbrev outOb (K : PySem.W.Frag) (ω : Addr) (t : Str) : Ob := dicOb K ω [(Sum.inr "text", .str t)]
abbrev toOb (K : PySem.W.Frag) (τ ω : Addr) (t : Str) : Ob := (tapeOb K τ).and (outOb K ω t)
section
variable {K : Kx} {ρ : List Sl} {o A B : Ob} {R : RD} {N B' C : RE} {te : TE} {i : Nat} {τ ω : Addr} {t : Str}
theorem xe_outG (hi : ρ[i]? = some (.raw (.ref ω))) (r : R (.d (.str t)) ρ (outOb K.K ω t)) : DL.XE K (tDGet (tVar i) (tC (.str "text"))) ρ (outOb K.K ω t) R :=
  xe_oget (xe_vr hi ⟨rfl, xe_str ⟨Sum.inr "text", .str t, rfl, rfl, by with_unfolding_all rfl, r⟩⟩)
theorem xe_outGet (hi : ρ[i]? = some (.raw (.ref ω))) (r : R (.d (.str t)) ρ (toOb K.K τ ω t)) : DL.XE K (tDGet (tVar i) (tC (.str "text"))) ρ (toOb K.K τ ω t) R :=
  xe_and2 (xe_outG (K := ⟨K.K, K.W, fun ex ρ o => K.Z ex ρ (o.and (tapeOb K.K τ))⟩) hi r)
theorem xs_outPut (hi : ρ[i]? = some (.raw (.ref ω))) (h : DL.XE K te ρ (outOb K.K ω t) fun dv ρ' o' => ρ' = ρ ∧ o' = outOb K.K ω t ∧ ∃ x, dv = .d (.str x) ∧ N ρ (outOb K.K ω x)) :
    XS K (sDPut (tVar i) (tC (.str "text")) te) ρ (outOb K.K ω t) N R B' C := xs_oput (τ := ω) (ps := [(Sum.inr "text", .str t)]) (XE.mono h fun dv ρ' o' ⟨h1, h2, x, h3, n⟩ => by
  subst h1 h2 h3
  refine xe_vr hi ⟨rfl, xe_str ⟨Sum.inr "text", .str x, rfl, rfl, rfl, by show 1 < sizeLine; rw [sizeLine_eq]; decide, ?_⟩⟩
  have e : putD ([(Sum.inr ("text" : Str), PyData.str t)] : DKv) (Sum.inr ("text" : Str)) (PyData.str x) = ([(Sum.inr ("text" : Str), PyData.str x)] : DKv) := by with_unfolding_all rfl
  rw [e]; exact n)
end
/-! ### the place of a sign in a text -/
section
variable {K : Kx} {ρ : List Sl} {o : Ob} {R : RD}
theorem xm_sindex {a b : Str} {i : Nat} {rest : List Nat} (ho : Builtin.Str.occurrences a b 0 a.length 1 = i :: rest) (r : R (.d (.int (i : Nat))) ρ o) :
    XM K (fun x xs H Q => ∃ a b i rest, x = .str a ∧ xs = [.str b] ∧ Builtin.Str.occurrences a b 0 a.length 1 = i :: rest ∧ Q (.int (i : Nat)) H) (.d (.str a)) [.d (.str b)] ρ o R := fun G σ H x vs e hx hv0 Q q => by
  obtain ⟨v, rfl, hv⟩ := va1 hv0
  cases vok_str hx
  cases vok_str hv
  exact ⟨a, b, i, rest, rfl, rfl, ho, xq_now q e r (.int _)⟩
end
/-! ### a pair of tuples of texts -/
theorem rp_pair {K : PySem.W.Frag} {f g1 g2 : Addr} {ob : Obj} {its : Array Value} {n : Nat} {d1 d2 : PyData} (h : K.lookup f = some ob) (hc : ob.cls = .type "tuple") (hd : ob.data = .seq its n) (hv : its.toList = [.ref g1, .ref g2]) (r1 : ∀ G, Rp K G (.ref g1) d1) (r2 : ∀ G, Rp K G (.ref g2) d2) : ∀ G, Rp K G (.ref f) (.tuple [d1, d2]) := fun G => by
  refine .tup (xs := [.ref g1, .ref g2]) (.inr ⟨ob, its, n, h, hc, hd, ?_, ?_⟩) (.cons (r1 G) (.cons (r2 G) .nil))
  · have e : its.toList.length = its.size := by simp
    rw [hv] at e
    rw [sizeLine_eq, ← e]
    show 2 ≤ 16777216
    decide
  · rw [hv]
    exact .cons rfl (.cons rfl .nil)
end DL

set_option Elab.async false
set_option linter.all false
set_option maxRecDepth 100000
namespace DL
open PySem PySem.Spec PyProof.Rows L2 TL
theorem ble_f {a b : Nat} (h : b < a) : Nat.ble a b = false := by
  cases e : Nat.ble a b with
  | false => rfl
  | true => exact absurd (Nat.ble_eq.mp e) (by omega)
theorem mem_tab {L : List Nat} {p : Nat → Bool} (h1 : (L.all fun c => decide (c < 128)) = true) (h2 : ((List.range 128).all fun c => decide (c ∈ L) == p c) = true) (h3 : ∀ c, 128 ≤ c → p c = false) (c : Nat) : decide (c ∈ L) = p c := by
  by_cases h : c < 128
  · have := List.all_eq_true.mp h2 c (List.mem_range.mpr h)
    exact eq_of_beq this
  · rw [h3 c (by omega)]
    refine decide_eq_false fun hm => h ?_
    exact of_decide_eq_true (List.all_eq_true.mp h1 c hm)
/-! ### signs that may stand in a text -/
def okB (c : Nat) : Bool := c == 10 || (Nat.ble 32 c && Nat.ble c 126 && c != 37)
theorem okB_big (c : Nat) (h : 128 ≤ c) : okB c = false := by
  unfold okB
  rw [ble_f (show 126 < c by omega), Bool.and_false, Bool.false_and, Bool.or_false]
  simp; omega
theorem okB_okc {c : Nat} (h : okc c) : okB c = true := by
  unfold okB
  rcases h with h | ⟨h1, h2, h3⟩
  · subst h; rfl
  · rw [Nat.ble_eq.mpr h1, Nat.ble_eq.mpr h2]
    simp [h3]
def S_has_right_characters (_ : PySem.W.Frag) : DS := fun dvs o R X => ∃ t : Str, dvs = [.d (.str t)] ∧ R (.d (.bool ((tl t).all okB))) o
theorem all_take {p : Nat → Bool} {l : List Nat} {k c : Nat} (h : l[k]? = some c) (ha : (l.take k).all p = true) (hp : p c = true) : (l.take (k + 1)).all p = true := by
  rw [take_snoc h, List.all_append, ha]
  simp [hp]
theorem all_not {p : Nat → Bool} {l : List Nat} {k c : Nat} (h : l[k]? = some c) (hp : p c = false) : l.all p = false := by
  rw [List.all_eq_false]
  exact ⟨c, List.mem_of_getElem? h, by rw [hp]; decide⟩
theorem app_tl (a b : Str) : tl (a ++ b) = tl a ++ tl b := by
  show (a ++ b).cps.toList = _
  have : (a ++ b).cps = a.cps ++ b.cps := rfl
  rw [this, Array.toList_append]
end DL

set_option Elab.async false
set_option linter.all false
set_option maxRecDepth 100000
namespace DL
open PySem PySem.Spec PyProof.Rows L2 TL
/-! ### tokens -/
def isLet (c : Nat) : Bool := (Nat.ble 97 c && Nat.ble c 122) || (Nat.ble 65 c && Nat.ble c 90)
def isDig (c : Nat) : Bool := Nat.ble 48 c && Nat.ble c 57
def isNam (c : Nat) : Bool := isLet c || isDig c || c == 95
def isSgn (c : Nat) : Bool := (c == 40) || (c == 41) || (c == 91) || (c == 93) || (c == 44) || (c == 58) || (c == 46) || (c == 61) || (c == 60) || (c == 43) || (c == 45) || (c == 42) || (c == 47)
abbrev mkS (l : List Nat) : Str := ⟨l.toArray⟩
theorem isLet_big (c : Nat) (h : 128 ≤ c) : isLet c = false := by
  unfold isLet
  rw [ble_f (show 122 < c by omega), ble_f (show 90 < c by omega), Bool.and_false, Bool.and_false]; rfl
theorem isDig_big (c : Nat) (h : 128 ≤ c) : isDig c = false := by
  unfold isDig
  rw [ble_f (show 57 < c by omega), Bool.and_false]
theorem isNam_big (c : Nat) (h : 128 ≤ c) : isNam c = false := by
  unfold isNam
  rw [isLet_big c h, isDig_big c h]
  have : (c == 95) = false := by simp; omega
  rw [this]; rfl
theorem isSgn_big (c : Nat) (h : 128 ≤ c) : isSgn c = false := by
  unfold isSgn
  have e : ∀ n : Nat, n < 128 → (c == n) = false := fun n hn => by simp; omega
  rw [e 40 (by decide), e 41 (by decide), e 91 (by decide), e 93 (by decide), e 44 (by decide), e 58 (by decide), e 46 (by decide), e 61 (by decide), e 60 (by decide), e 43 (by decide), e 45 (by decide), e 42 (by decide), e 47 (by decide)]
  rfl
theorem mkS_tl {s : Str} {l : List Nat} (h : tl s = l) : s = mkS l := str_ext (by rw [h])
/-- how far p goes on -/
def run (p : Nat → Bool) : List Nat → Nat
  | [] => 0
  | c :: r => if p c = true then run p r + 1 else 0
theorem run_le (p : Nat → Bool) : ∀ l, run p l ≤ l.length
  | [] => Nat.le_refl _
  | c :: r => by
    have := run_le p r
    unfold run
    split <;> simp only [List.length_cons] <;> omega
theorem run_step {p : Nat → Bool} {l : List Nat} {k : Nat} {c : Nat} (h : l[k]? = some c) (hp : p c = true) (hk : k + run p (l.drop k) = n) : k + 1 + run p (l.drop (k + 1)) = n := by
  have hlt := (List.getElem?_eq_some_iff.mp h)
  rw [List.drop_eq_getElem_cons hlt.1, hlt.2] at hk
  unfold run at hk
  rw [if_pos hp] at hk
  omega
theorem run_stop {p : Nat → Bool} {l : List Nat} {k : Nat} {c : Nat} (h : l[k]? = some c) (hp : p c = false) : run p (l.drop k) = 0 := by
  have hlt := (List.getElem?_eq_some_iff.mp h)
  rw [List.drop_eq_getElem_cons hlt.1, hlt.2]
  unfold run
  rw [if_neg (by rw [hp]; decide)]
theorem run_end {p : Nat → Bool} {l : List Nat} {k : Nat} (h : l.length ≤ k) : run p (l.drop k) = 0 := by
  rw [List.drop_of_length_le h]; rfl
def wordL : List Str := (["import", "data", "trait", "with", "impl", "for", "def", "let", "in", "if", "then", "else", "loop"] : List Str) ++ (["times", "do", "not", "and", "or", "True", "False"] : List Str)
/-- a token: its sort and its places -/
structure Tk where
  s : Str
  a : Nat
  b : Nat
def tkD (t : Tk) : PyData := .tuple [.str t.s, nI t.a, nI t.b]
/-- the token that begins with the sign c -/
def tokC (a c : Nat) (r : List Nat) : Tk :=
  if isLet c = true then ⟨if mkS ((c :: r).take (run isNam (c :: r))) ∈ wordL then "word" else "name", a, a + run isNam (c :: r)⟩
  else if isDig c = true then ⟨"number", a, a + run isDig (c :: r)⟩
  else if (c :: r).take 2 = [61, 61] then ⟨"sign", a, a + 2⟩
  else ⟨if isSgn c = true then "sign" else "wrong", a, a + 1⟩
theorem run_pos {p : Nat → Bool} {c : Nat} {r : List Nat} (h : p c = true) : 0 < run p (c :: r) := by unfold run; rw [if_pos h]; omega
theorem tokC_a (a c : Nat) (r : List Nat) : (tokC a c r).a = a := by
  unfold tokC
  split
  · rfl
  · split
    · rfl
    · split <;> rfl
theorem tokC_b (a c : Nat) (r : List Nat) : a < (tokC a c r).b ∧ (tokC a c r).b ≤ a + (r.length + 1) := by
  unfold tokC
  split
  · rename_i hc
    have h1 : 0 < run isNam (c :: r) := run_pos (by unfold isNam; rw [hc]; rfl)
    have h2 := run_le isNam (c :: r)
    rw [List.length_cons] at h2
    exact ⟨by show a < a + _; omega, by show a + _ ≤ _; omega⟩
  · split
    · rename_i hc
      have h1 : 0 < run isDig (c :: r) := run_pos hc
      have h2 := run_le isDig (c :: r)
      rw [List.length_cons] at h2
      exact ⟨by show a < a + _; omega, by show a + _ ≤ _; omega⟩
    · split
      · rename_i hc
        refine ⟨by show a < a + 2; omega, ?_⟩
        have := congrArg List.length hc
        rw [List.length_take] at this
        simp only [List.length_cons, List.length_nil] at this
        show a + 2 ≤ _
        omega
      · exact ⟨by show a < a + 1; omega, by show a + 1 ≤ _; omega⟩
/-- the tokens, place by place: behind and comment are the law's -/
def scanT : Nat → Nat → Bool → List Nat → List Tk
  | _, _, _, [] => []
  | a, b, m, c :: r =>
    if a < b ∨ (m = true ∧ c ≠ 10) ∨ c = 32 ∨ c = 10 then scanT (a + 1) b (m && c != 10) r
    else if c = 35 then scanT (a + 1) b true r
    else tokC a c r :: scanT (a + 1) (tokC a c r).b false r
def toksN (t : List Nat) : List Tk := scanT 0 0 false t
def toksD (t : List Nat) : List PyData := (toksN t).map tkD
/-- behind does not matter where it is passed -/
theorem scan_low : ∀ (l : List Nat) (a b b' : Nat) (m : Bool), b ≤ a → b' ≤ a → scanT a b m l = scanT a b' m l
  | [], _, _, _, _, _, _ => rfl
  | c :: r, a, b, b', m, h, h' => by
    unfold scanT
    have e1 : ¬ a < b := by omega
    have e2 : ¬ a < b' := by omega
    simp only [e1, e2, false_or]
    rw [scan_low r (a + 1) b b' _ (by omega) (by omega), scan_low r (a + 1) b b' true (by omega) (by omega)]
/-- a token is passed -/
theorem scan_pass : ∀ (l : List Nat) (a e : Nat), a ≤ e → scanT a e false l = scanT e e false (l.drop (e - a))
  | [], a, e, _ => by rw [List.drop_nil]; unfold scanT; rfl
  | c :: r, a, e, h => by
    by_cases ha : a = e
    · subst ha; rw [Nat.sub_self]; rfl
    · have hlt : a < e := by omega
      have := scan_pass r (a + 1) e (by omega)
      conv => lhs; unfold scanT
      rw [if_pos (Or.inl hlt), Bool.false_and, this]
      have e2 : e - a = (e - (a + 1)) + 1 := by omega
      rw [e2, List.drop_succ_cons]
/-- a comment is passed -/
theorem scan_comment : ∀ (l : List Nat) (a b : Nat), b ≤ a → scanT a b true l = scanT (a + run (fun c => c != 10) l) b false (l.drop (run (fun c => c != 10) l))
  | [], a, b, _ => rfl
  | c :: r, a, b, h => by
    have e1 : ¬ a < b := by omega
    by_cases hc : c = 10
    · subst hc
      have : run (fun c => c != 10) (10 :: r) = 0 := by simp [run]
      rw [this]
      show scanT a b true (10 :: r) = scanT a b false (10 :: r)
      unfold scanT
      simp [e1]
    · have : run (fun c => c != 10) (c :: r) = run (fun c => c != 10) r + 1 := by simp [run, hc]
      rw [this, List.drop_succ_cons]
      conv => lhs; unfold scanT
      rw [if_pos (Or.inr (Or.inl ⟨rfl, hc⟩))]
      have e2 : (true && c != 10) = true := by simp [hc]
      rw [e2, scan_comment r (a + 1) b (by omega)]
      have : a + 1 + run (fun c => c != 10) r = a + (run (fun c => c != 10) r + 1) := by omega
      rw [this]
def S_run_end (_ : PySem.W.Frag) : DS := fun dvs o R X => ∃ (t : Str) (i : Nat) (al : Str) (p : Nat → Bool), dvs = [.d (.str t), .d (.int i), .d (.str al)] ∧ t.length ≤ 100000 ∧ i ≤ t.length ∧ (∀ c, decide (c ∈ al.cps.toList) = p c) ∧ R (.d (.int (i + run p ((tl t).drop i) : Nat))) o
def S_token_at (_ : PySem.W.Frag) : DS := fun dvs o R X => ∃ (t : Str) (i c : Nat) (r : List Nat), dvs = [.d (.str t), .d (.int i)] ∧ t.length ≤ 100000 ∧ (tl t).drop i = c :: r ∧ R (.d (tkD (tokC i c r))) o
def toksB (t : List Nat) (s e : Nat) : List Tk := (scanT s s false (t.drop s)).filter fun k => decide (k.a < e)
theorem drop_get {l : List Nat} {k c : Nat} (h : l[k]? = some c) : l.drop k = c :: l.drop (k + 1) := by
  obtain ⟨h1, h2⟩ := List.getElem?_eq_some_iff.mp h
  rw [List.drop_eq_getElem_cons h1, h2]
theorem scan_a : ∀ (l : List Nat) (a b : Nat) (m : Bool), ∀ k ∈ scanT a b m l, a ≤ k.a ∧ k.a < a + l.length
  | [], _, _, _, k, h => by unfold scanT at h; cases h
  | c :: r, a, b, m, k, h => by
    unfold scanT at h
    rw [List.length_cons]
    split at h
    · have := scan_a r _ _ _ k h; omega
    · split at h
      · have := scan_a r _ _ _ k h; omega
      · rcases List.mem_cons.mp h with e | e
        · rw [e, tokC_a]; omega
        · have := scan_a r _ _ _ k e; omega
theorem toksB_end {t : List Nat} {k e : Nat} (h : e ≤ k) : toksB t k e = [] := by
  unfold toksB
  refine List.filter_eq_nil_iff.mpr fun x hx => ?_
  have := scan_a _ _ _ _ x hx
  simp
  omega
theorem toksB_gap {t : List Nat} {k e c : Nat} (h : t[k]? = some c) (hc : c = 32 ∨ c = 10) : toksB t k e = toksB t (k + 1) e := by
  unfold toksB
  rw [drop_get h]
  conv => lhs; unfold scanT
  rw [if_pos (Or.inr (Or.inr hc)), Bool.false_and, scan_low _ (k + 1) k (k + 1) _ (by omega) (by omega)]
theorem toksB_comment {t : List Nat} {k e : Nat} (h : t[k]? = some 35) : toksB t k e = toksB t (k + run (fun c => c != 10) (t.drop k)) e := by
  unfold toksB
  have hr : run (fun c => c != 10) (35 :: t.drop (k + 1)) = run (fun c => c != 10) (t.drop (k + 1)) + 1 := by
    show (if (35 != 10) = true then _ else _) = _
    rw [if_pos (by decide)]
  have hd : t.drop (k + (run (fun c => c != 10) (t.drop (k + 1)) + 1)) = (t.drop (k + 1)).drop (run (fun c => c != 10) (t.drop (k + 1))) := by
    rw [List.drop_drop]
    congr 1
    omega
  rw [drop_get h, hr, hd]
  conv => lhs; unfold scanT
  rw [if_neg (by simp), if_pos rfl, scan_comment _ _ _ (by omega)]
  have : k + 1 + run (fun c => c != 10) (t.drop (k + 1)) = k + (run (fun c => c != 10) (t.drop (k + 1)) + 1) := by omega
  rw [this, scan_low _ _ k _ _ (by omega) (Nat.le_refl _)]
theorem toksB_tok {t : List Nat} {k e c : Nat} (h : t[k]? = some c) (he : k < e) (h1 : ¬ c = 32) (h2 : ¬ c = 10) (h3 : ¬ c = 35) : toksB t k e = tokC k c (t.drop (k + 1)) :: toksB t (tokC k c (t.drop (k + 1))).b e := by
  unfold toksB
  rw [drop_get h]
  conv => lhs; unfold scanT
  have hb := tokC_b k c (t.drop (k + 1))
  rw [if_neg (by simp [h1, h2]), if_neg h3, List.filter_cons_of_pos (by rw [tokC_a]; exact decide_eq_true he), scan_pass _ _ _ (by omega)]
  have : (t.drop (k + 1)).drop ((tokC k c (t.drop (k + 1))).b - (k + 1)) = t.drop (tokC k c (t.drop (k + 1))).b := by
    rw [List.drop_drop]
    congr 1
    omega
  rw [this]
theorem run_spec (p : Nat → Bool) : ∀ l : List Nat, (∀ v, v < run p l → ∃ c, l[v]? = some c ∧ p c = true) ∧ ∀ c, l[run p l]? = some c → p c = false
  | [] => ⟨fun v h => absurd h (Nat.not_lt_zero _), fun c h => by simp at h⟩
  | d :: r => by
    obtain ⟨h1, h2⟩ := run_spec p r
    by_cases hd : p d = true
    · have e : run p (d :: r) = run p r + 1 := by show (if p d = true then _ else _) = _; rw [if_pos hd]
      rw [e]
      refine ⟨fun v hv => ?_, fun c hc => h2 c (by simpa using hc)⟩
      cases v with
      | zero => exact ⟨d, rfl, hd⟩
      | succ v => exact (h1 v (by omega)).imp fun c hc => by simpa using hc
    · have e : run p (d :: r) = 0 := by show (if p d = true then _ else _) = _; rw [if_neg hd]
      rw [e]
      refine ⟨fun v hv => absurd hv (Nat.not_lt_zero _), fun c hc => ?_⟩
      have : d = c := by simpa using hc
      rw [← this]
      exact Bool.eq_false_iff.mpr hd
theorem getD_of {t : Str} {v c : Nat} (h : (tl t)[v]? = some c) : t.cps.getD v 0 = c := by
  have : t.cps[v]? = some c := by rw [← h]; simp
  rw [Array.getD_eq_getD_getElem?, this]; rfl
theorem find3_run (t : Str) (k : Nat) (hk : k ≤ t.length) : Txt.find3 t "\n" (k : Int) = if k + run (fun c => c != 10) ((tl t).drop k) < t.length then ((k + run (fun c => c != 10) ((tl t).drop k) : Nat) : Int) else -1 := by
  have e : ("\n" : Str) = ⟨#[10]⟩ := by decide +kernel
  have hfi : PySem.fromIndex t.length (k : Int) = k := by
    unfold PySem.fromIndex
    rw [if_neg (by omega)]
    omega
  obtain ⟨r1, r2⟩ := run_spec (fun c => c != 10) ((tl t).drop k)
  have htl := len_tl t
  generalize hj : run (fun c => c != 10) ((tl t).drop k) = j at r1 r2 ⊢
  have at10 : k + j < t.length → t.cps.getD (k + j) 0 = 10 := fun h => by
    have hg := List.getElem?_eq_getElem (show k + j < (tl t).length by omega)
    have hg2 := hg
    rw [← List.getElem?_drop] at hg2
    have := r2 _ hg2
    rw [getD_of hg]
    simpa using this
  rw [e]
  rcases StrLaws.find3_spec t 10 (k : Int) with ⟨h0, hn⟩ | ⟨i, h0, h1, h2, h3, h4⟩
  · rw [h0]
    rw [hfi] at hn
    split
    · rename_i hlt
      exact absurd (at10 hlt) (hn _ (by omega) hlt)
    · rfl
  · rw [h0]
    rw [hfi] at h1 h4
    have hij : i = k + j := by
      rcases Nat.lt_trichotomy i (k + j) with h | h | h
      · obtain ⟨c, hc, hp⟩ := r1 (i - k) (by omega)
        rw [List.getElem?_drop, show k + (i - k) = i by omega] at hc
        rw [getD_of hc] at h3
        subst h3
        simp at hp
      · exact h
      · exact absurd (at10 (by omega)) (h4 _ (by omega) h)
    rw [← hij, if_pos h2]
def SrtOk (s : Str) : Prop := s = "word" ∨ s = "name" ∨ s = "number" ∨ s = "sign" ∨ s = "wrong"
theorem SrtOk.ok {s : Str} (h : SrtOk s) : PyData.strOk s = true := by
  rcases h with rfl | rfl | rfl | rfl | rfl <;> decide +kernel
theorem tokC_s (a c : Nat) (r : List Nat) : SrtOk (tokC a c r).s := by
  unfold tokC SrtOk
  split
  · show (if _ then _ else _) = _ ∨ _
    split <;> simp
  · split
    · simp
    · split
      · simp
      · show (if _ then _ else _) = _ ∨ _
        split <;> simp
theorem scan_s : ∀ (l : List Nat) (a b : Nat) (m : Bool), ∀ k ∈ scanT a b m l, SrtOk k.s
  | [], a, b, m, k, h => by unfold scanT at h; cases h
  | c :: r, a, b, m, k, h => by
    unfold scanT at h
    split at h
    · exact scan_s r _ _ _ k h
    · split at h
      · exact scan_s r _ _ _ k h
      · rcases List.mem_cons.mp h with e | e
        · rw [e]; exact tokC_s a c r
        · exact scan_s r _ _ _ k e
theorem tk_shp {t : Tk} (h : SrtOk t.s) : Shp 1 (tkD t) := shp_tup fun d hd => by
  have : d = .str t.s ∨ d = nI t.a ∨ d = nI t.b := by simpa using hd
  rcases this with rfl | rfl | rfl
  · exact ⟨h.ok, Nat.zero_le _⟩
  · exact shp_int
  · exact shp_int
theorem toks_shp (t : List Nat) : Shp 2 (.list (toksD t)) := shp_lst fun d hd => by
  obtain ⟨k, hk, rfl⟩ := List.mem_map.mp hd
  exact tk_shp (scan_s _ _ _ _ k hk)
theorem scan_len : ∀ (l : List Nat) (a b : Nat) (m : Bool), (scanT a b m l).length ≤ l.length
  | [], a, b, m => by unfold scanT; exact Nat.le_refl _
  | c :: r, a, b, m => by
    unfold scanT
    rw [List.length_cons]
    split
    · have := scan_len r (a + 1) b (m && c != 10); omega
    · split
      · have := scan_len r (a + 1) b true; omega
      · have := scan_len r (a + 1) (tokC a c r).b false
        rw [List.length_cons]; omega
theorem toks_sm {n : Nat} (t : List Nat) (h : t.length < 2 ^ 62) : Sm (n + 2) (.list (toksD t)) := .lst (by
    unfold toksD
    rw [List.length_map]
    have := scan_len t 0 0 false
    unfold toksN
    omega) fun d hd => by
  obtain ⟨k, hk, rfl⟩ := List.mem_map.mp hd
  exact .tup (show 3 < 2 ^ 62 by decide) fun e he => by
    have : e = .str k.s ∨ e = nI k.a ∨ e = nI k.b := by simpa using he
    rcases this with rfl | rfl | rfl
    · exact .str
    · exact .int
    · exact .int
def S_tokens_between (_ : PySem.W.Frag) : DS := fun dvs o R X => ∃ (t : Str) (s e : Nat), dvs = [.d (.str t), .d (.int s), .d (.int e)] ∧ t.length ≤ 100000 ∧ s ≤ t.length ∧ e ≤ t.length ∧ R (.new (.lst ((toksB (tl t) s e).map tkD))) o
def S_tokens (_ : PySem.W.Frag) : DS := fun dvs o R X => ∃ (t : Str), dvs = [.d (.str t)] ∧ t.length ≤ 100000 ∧ R (.new (.lst (toksD (tl t)))) o
def S_is_name (_ : PySem.W.Frag) : DS := fun dvs o R X => ∃ (t : Str), dvs = [.d (.str t)] ∧ t.length ≤ 100000 ∧ R (.d (.bool (PyData.eqv (.list (toksD (tl t))) (.list [tkD ⟨"name", 0, t.length⟩])))) o
theorem one_lt {c d : Nat} : ([c] < [d]) ↔ c < d := by
  constructor
  · intro h
    rcases List.cons_lt_cons_iff.mp h with h | ⟨_, h⟩
    · exact h
    · exact absurd h (List.not_lt_nil [])
  · exact fun h => List.cons_lt_cons_iff.mpr (.inl h)
theorem sgn_ge {s : Str} {c d : Nat} (h : tl s = [d]) : (!decide ((⟨#[c]⟩ : Str).cps.toList < s.cps.toList)) = Nat.ble d c := by
  have e : s.cps.toList = [d] := h
  rw [e]
  show (!decide ([c] < [d])) = _
  by_cases hc : c < d
  · rw [decide_eq_true (one_lt.mpr hc), ble_f hc]; rfl
  · rw [decide_eq_false (fun z => hc (one_lt.mp z)), Nat.ble_eq.mpr (by omega)]; rfl
theorem sgn_le {s : Str} {c d : Nat} (h : tl s = [d]) : (!decide (s.cps.toList < (⟨#[c]⟩ : Str).cps.toList)) = Nat.ble c d := by
  have e : s.cps.toList = [d] := h
  rw [e]
  show (!decide ([d] < [c])) = _
  by_cases hc : d < c
  · rw [decide_eq_true (one_lt.mpr hc), ble_f hc]; rfl
  · rw [decide_eq_false (fun z => hc (one_lt.mp z)), Nat.ble_eq.mpr (by omega)]; rfl
def S__law_is_letter (_ : PySem.W.Frag) : DS := fun dvs o R X => ∃ c : Nat, dvs = [.d (.str ⟨#[c]⟩)] ∧ R (.d (.bool (isLet c))) o
def S__law_is_digit (_ : PySem.W.Frag) : DS := fun dvs o R X => ∃ c : Nat, dvs = [.d (.str ⟨#[c]⟩)] ∧ R (.d (.bool (isDig c))) o
/-- the run that the law follows -/
def runL (c : Nat) (l : List Nat) : Nat := if isDig c = true then run isDig l else run isNam l
def S__law_run (_ : PySem.W.Frag) : DS := fun dvs o R X => ∃ (t : Str) (i c : Nat) (r : List Nat), dvs = [.d (.str t), .d (.int i)] ∧ t.length ≤ 100000 ∧ (tl t).drop i = c :: r ∧ R (.d (.int (i + runL c (c :: r) : Nat))) o
def S__law_token (_ : PySem.W.Frag) : DS := fun dvs o R X => ∃ (t : Str) (i c : Nat) (r : List Nat), dvs = [.d (.str t), .d (.int i)] ∧ t.length ≤ 100000 ∧ (tl t).drop i = c :: r ∧ R (.d (tkD (tokC i c r))) o
def S__law_tokens (_ : PySem.W.Frag) : DS := fun dvs o R X => ∃ (t : Str), dvs = [.d (.str t)] ∧ t.length ≤ 100000 ∧ R (.new (.lst (toksD (tl t)))) o
end DL

set_option Elab.async false
set_option linter.all false
set_option maxRecDepth 100000
namespace DL
open PySem PySem.Spec PyProof.Rows L2 TL
/-! ### trees of values -/
inductive Tr where
  | lt (s e : Nat) (n : Str) (ns : Nat) (a b : Tr)
  | ift (s e : Nat) (a b c : Tr)
  | lp (s e : Nat) (n : Str) (ns : Nat) (a b c : Tr)
  | bin (s e : Nat) (g : Str) (a b : Tr)
  | nt (s e : Nat) (a : Tr)
  | mns (s e : Nat) (a : Tr)
  | fld (s e : Nat) (a : Tr) (n : Str)
  | num (s e : Nat) (v : Nat)
  | tru (s e : Nat) (v : Bool)
  | grp (s e : Nat) (a : Tr)
  | nam (s e : Nat) (n : Str)
  | call (s e : Nat) (n : Str) (as : List Tr)
def Tr.s : Tr → Nat
  | .lt s .. | .ift s .. | .lp s .. | .bin s .. | .nt s .. | .mns s .. | .fld s .. | .num s .. | .tru s .. | .grp s .. | .nam s .. | .call s .. => s
def Tr.e : Tr → Nat
  | .lt _ e .. | .ift _ e .. | .lp _ e .. | .bin _ e .. | .nt _ e .. | .mns _ e .. | .fld _ e .. | .num _ e .. | .tru _ e .. | .grp _ e .. | .nam _ e .. | .call _ e .. => e
mutual
def Tr.toD : Tr → PyData
  | .lt s e n ns a b => .tuple [.str "let", nI s, nI e, .str n, nI ns, a.toD, b.toD]
  | .ift s e a b c => .tuple [.str "if", nI s, nI e, a.toD, b.toD, c.toD]
  | .lp s e n ns a b c => .tuple [.str "loop", nI s, nI e, .str n, nI ns, a.toD, b.toD, c.toD]
  | .bin s e g a b => .tuple [.str "binary", nI s, nI e, .str g, a.toD, b.toD]
  | .nt s e a => .tuple [.str "not", nI s, nI e, a.toD]
  | .mns s e a => .tuple [.str "minus", nI s, nI e, a.toD]
  | .fld s e a n => .tuple [.str "field", nI s, nI e, a.toD, .str n]
  | .num s e v => .tuple [.str "number", nI s, nI e, nI v]
  | .tru s e v => .tuple [.str "truth", nI s, nI e, .bool v]
  | .grp s e a => .tuple [.str "group", nI s, nI e, a.toD]
  | .nam s e n => .tuple [.str "name", nI s, nI e, .str n]
  | .call s e n as => .tuple [.str "call", nI s, nI e, .str n, .tuple (Tr.toDs as)]
def Tr.toDs : List Tr → List PyData
  | [] => []
  | a :: r => a.toD :: Tr.toDs r
end
theorem Tr.toD_eq (t : Tr) : ∃ w r, t.toD = .tuple (.str w :: nI t.s :: nI t.e :: r) := by
  cases t <;> exact ⟨_, _, rfl⟩
/-! ### the reader's state and the parser -/
abbrev ksT (t : Str) : List Tk := toksN (tl t)
inductive Rs (α : Type) where
  | ok (x : α) (p d : Nat)
  | bad (s e : Nat)
  | out
def Rs.bind {α β : Type} (r : Rs α) (f : α → Nat → Nat → Rs β) : Rs β := match r with
  | .ok x p d => f x p d
  | .bad s e => .bad s e
  | .out => .out
/-- the place of the token that stands there, or of the text's end -/
def plc (ks : List Tk) (p : Nat) : Nat × Nat := match ks[p]? with
  | some k => (k.a, k.b)
  | none => match ks[ks.length - 1]? with
    | some k => (k.b, k.b)
    | none => (0, 0)
def srt (ks : List Tk) (p : Nat) : Str := match ks[p]? with
  | some k => k.s
  | none => ""
def cutN (t : Str) (a b : Nat) : Str := cutS t (some (a : Int)) (some (b : Int))
def fx (t : Str) (ks : List Tk) (p : Nat) : Str := if srt ks p = "word" ∨ srt ks p = "sign" then cutN t (plc ks p).1 (plc ks p).2 else ""
def lend (ks : List Tk) (p : Nat) : Nat := match ks[p - 1]? with
  | some k => k.b
  | none => 0
section
variable (t : Str) (ks : List Tk)
def needR (c : Bool) (p d : Nat) : Rs Unit := if c then .ok () p d else .bad (plc ks p).1 (plc ks p).2
def takeR (x : Str) (p d : Nat) : Rs Unit := if fx t ks p = x then .ok () (p + 1) d else .bad (plc ks p).1 (plc ks p).2
def markR (p d : Nat) : Rs (Str × Nat) := if srt ks p = "name" then .ok (cutN t (plc ks p).1 (plc ks p).2, (plc ks p).1) (p + 1) d else .bad (plc ks p).1 (plc ks p).2
def beginR (p d : Nat) : Rs Nat := if d < 30 then .ok (plc ks p).1 p (d + 1) else .bad (plc ks p).1 (plc ks p).2
end
/-- the number that digits spell -/
def numV (z : List Nat) : Nat := z.foldl (fun v c => (v * 10 + (c - 48)) % 4294967296) 0
inductive Md where
  | value
  | letv (st : Nat)
  | ifv (st : Nat)
  | loopv (st : Nat)
  | either (l : Nat)
  | eloop (l : Nat) (left : Tr)
  | negated
  | compared
  | chain (sums : Bool)
  | cloop (sums : Bool) (left : Tr)
  | signed
  | reached
  | rloop (x : Tr)
  | simple
  | args
  | aloop (acc : List Tr)
def lvS : Nat → Str
  | 0 => "or"
  | _ => "and"
def sgn (sums : Bool) (x : Str) : Bool := if sums then decide (x = "+") || decide (x = "-") else decide (x = "*") || decide (x = "/")
def Tr.parts : Tr → List Tr
  | .call _ _ _ as => as
  | _ => []
def pr (t : Str) (ks : List Tk) : Nat → Md → Nat → Nat → Rs Tr
  | 0, _, _, _ => .out
  | n + 1, .value, p, d => (beginR ks p d).bind fun st p d =>
      (if fx t ks p = "let" then pr t ks n (.letv st) p d else if fx t ks p = "if" then pr t ks n (.ifv st) p d else if fx t ks p = "loop" then pr t ks n (.loopv st) p d else pr t ks n (.either 0) p d).bind fun x p d => .ok x p (d - 1)
  | n + 1, .letv st, p, d => (takeR t ks "let" p d).bind fun _ p d => (markR t ks p d).bind fun m p d => (takeR t ks "=" p d).bind fun _ p d => (pr t ks n .value p d).bind fun a p d =>
      (takeR t ks "in" p d).bind fun _ p d => (pr t ks n .value p d).bind fun b p d => .ok (.lt st (lend ks p) m.1 m.2 a b) p d
  | n + 1, .ifv st, p, d => (takeR t ks "if" p d).bind fun _ p d => (pr t ks n .value p d).bind fun a p d => (takeR t ks "then" p d).bind fun _ p d => (pr t ks n .value p d).bind fun b p d =>
      (takeR t ks "else" p d).bind fun _ p d => (pr t ks n .value p d).bind fun c p d => .ok (.ift st (lend ks p) a b c) p d
  | n + 1, .loopv st, p, d => (takeR t ks "loop" p d).bind fun _ p d => (markR t ks p d).bind fun m p d => (takeR t ks "=" p d).bind fun _ p d => (pr t ks n .value p d).bind fun a p d =>
      (takeR t ks "times" p d).bind fun _ p d => (pr t ks n .value p d).bind fun b p d => (takeR t ks "do" p d).bind fun _ p d => (pr t ks n .value p d).bind fun c p d => .ok (.lp st (lend ks p) m.1 m.2 a b c) p d
  | n + 1, .either l, p, d => if l = 2 then pr t ks n .negated p d else (pr t ks n (.either (l + 1)) p d).bind fun x p d => pr t ks n (.eloop l x) p d
  | n + 1, .eloop l x, p, d => if fx t ks p = lvS l then (pr t ks n (.either (l + 1)) (p + 1) d).bind fun y p' d => pr t ks n (.eloop l (.bin x.s y.e (fx t ks p) x y)) p' d else .ok x p d
  | n + 1, .negated, p, d => if fx t ks p = "not" then (beginR ks p d).bind fun st p d => (takeR t ks "not" p d).bind fun _ p d => (pr t ks n .negated p d).bind fun x p d => .ok (.nt st x.e x) p (d - 1) else pr t ks n .compared p d
  | n + 1, .compared, p, d => (pr t ks n (.chain true) p d).bind fun x p d => if fx t ks p = "==" ∨ fx t ks p = "<" then (pr t ks n (.chain true) (p + 1) d).bind fun y p' d => .ok (.bin x.s y.e (fx t ks p) x y) p' d else .ok x p d
  | n + 1, .chain b, p, d => (if b then pr t ks n (.chain false) p d else pr t ks n .signed p d).bind fun x p d => pr t ks n (.cloop b x) p d
  | n + 1, .cloop b x, p, d => if sgn b (fx t ks p) then (if b then pr t ks n (.chain false) (p + 1) d else pr t ks n .signed (p + 1) d).bind fun y p' d => pr t ks n (.cloop b (.bin x.s y.e (fx t ks p) x y)) p' d else .ok x p d
  | n + 1, .signed, p, d => if fx t ks p = "-" then (beginR ks p d).bind fun st p d => (takeR t ks "-" p d).bind fun _ p d => (pr t ks n .signed p d).bind fun x p d => .ok (.mns st x.e x) p (d - 1) else pr t ks n .reached p d
  | n + 1, .reached, p, d => (pr t ks n .simple p d).bind fun x p d => pr t ks n (.rloop x) p d
  | n + 1, .rloop x, p, d => if fx t ks p = "." then (markR t ks (p + 1) d).bind fun m p d => pr t ks n (.rloop (.fld x.s (lend ks p) x m.1)) p d else .ok x p d
  | n + 1, .simple, p, d =>
      if srt ks p = "number" then .ok (.num (plc ks p).1 (plc ks p).2 (numV (tl (cutN t (plc ks p).1 (plc ks p).2)))) (p + 1) d
      else if fx t ks p = "True" ∨ fx t ks p = "False" then .ok (.tru (plc ks p).1 (plc ks p).2 (decide (cutN t (plc ks p).1 (plc ks p).2 = "True"))) (p + 1) d
      else if fx t ks p = "(" then (pr t ks n .value (p + 1) d).bind fun x p' d => (takeR t ks ")" p' d).bind fun _ p' d => .ok (.grp (plc ks p).1 (lend ks p') x) p' d
      else (markR t ks p d).bind fun m p' d => if fx t ks p' = "(" then (pr t ks n .args p' d).bind fun x p' d => .ok (.call (plc ks p).1 (lend ks p') m.1 x.parts) p' d else .ok (.nam (plc ks p).1 (plc ks p).2 m.1) p' d
  | n + 1, .args, p, d => (takeR t ks "(" p d).bind fun _ p d => if fx t ks p = ")" then .ok (.call 0 0 "" []) (p + 1) d else (pr t ks n .value p d).bind fun x p d => pr t ks n (.aloop [x]) p d
  | n + 1, .aloop acc, p, d => if fx t ks p = "," then (pr t ks n .value (p + 1) d).bind fun x p d => pr t ks n (.aloop (acc ++ [x])) p d else (takeR t ks ")" p d).bind fun _ p d => .ok (.call 0 0 "" acc) p d
theorem ks_len (t : Str) : (toksD (tl t)).length = (ksT t).length := List.length_map ..
theorem ks_at {t : Str} {p : Nat} {k : Tk} (h : (ksT t)[p]? = some k) : (toksD (tl t))[p]? = some (tkD k) := by
  unfold toksD
  rw [List.getElem?_map, h]; rfl
theorem plc_at {ks : List Tk} {p : Nat} {k : Tk} (h : ks[p]? = some k) : plc ks p = (k.a, k.b) := by unfold plc; rw [h]
theorem srt_at {ks : List Tk} {p : Nat} {k : Tk} (h : ks[p]? = some k) : srt ks p = k.s := by unfold srt; rw [h]
theorem plc_end {ks : List Tk} {p : Nat} {k : Tk} (h : ks.length ≤ p) (hk : ks[ks.length - 1]? = some k) : plc ks p = (k.b, k.b) := by
  unfold plc; rw [List.getElem?_eq_none h, hk]
theorem plc_nil {p : Nat} : plc [] p = (0, 0) := by unfold plc; simp
theorem srt_end {ks : List Tk} {p : Nat} (h : ks.length ≤ p) : srt ks p = "" := by unfold srt; rw [List.getElem?_eq_none h]
theorem rd_last {α : Type} {xs : List α} {v : α} (h : xs[xs.length - 1]? = some v) : atI xs (-1) = some v := by
  have hj := (List.getElem?_eq_some_iff.mp h).1
  unfold atI ixN
  rw [if_neg (by omega), if_pos (by omega), show ((-1 : Int) + (xs.length : Int)).toNat = xs.length - 1 by omega]
  exact h
theorem ks_emp {t : Str} (h : (toksD (tl t)).isEmpty = true) : ksT t = [] := by
  unfold toksD at h
  rwa [List.isEmpty_iff, List.map_eq_nil_iff] at h
theorem ks_some {t : Str} (h : (toksD (tl t)).isEmpty = false) : 0 < (ksT t).length := by
  rw [← ks_len]
  cases e : toksD (tl t) with
  | nil => rw [e] at h; cases h
  | cons _ _ => simp
/-! ### the promises -/
/-- an error of syntax at that place -/
def SynEx (K : PySem.W.Frag) (s e : Nat) (ex : Ex) : Prop := PySem.W.nsIn K mainGlobals "SyntaxProblem" = some (some ex.1) ∧ ex.2 = some ([(("end" : Str), nI e), (("start" : Str), nI s)] : List (Str × PyData))
abbrev rdF (t : Str) (p d : Nat) : Fls := [("text", .str t), ("tokens", .list (toksD (tl t))), ("at", nI p), ("depth", nI d)]
abbrev rdOb (K : PySem.W.Frag) (x dx : Addr) (t : Str) (p d : Nat) : Ob := insOb K (clsA K "Reader") x dx (rdF t p d)
section
variable {K : Kx} {ρ : List Sl} {N B C' : RE} {R : RD} {C a dx : Addr} {t : Str} {p d i : Nat}
theorem put_at (t : Str) (p d : Nat) : putFD "at" (.int ((p : Int) + 1)) (rdF t p d) = rdF t (p + 1) d := by
  unfold putFD putFD putFD
  rw [if_neg (by decide +kernel), if_neg (by decide +kernel), if_pos rfl]; rfl
theorem put_up (t : Str) (p d : Nat) : putFD "depth" (.int ((d : Int) + 1)) (rdF t p d) = rdF t p (d + 1) := by
  unfold putFD putFD putFD putFD
  rw [if_neg (by decide +kernel), if_neg (by decide +kernel), if_neg (by decide +kernel), if_pos rfl]; rfl
theorem put_dn (t : Str) (p d : Nat) : putFD "depth" (.int (((d + 1 : Nat) : Int) - 1)) (rdF t p (d + 1)) = rdF t p d := by
  unfold putFD putFD putFD putFD
  rw [if_neg (by decide +kernel), if_neg (by decide +kernel), if_neg (by decide +kernel), if_pos rfl, show ((d + 1 : Nat) : Int) - 1 = (d : Int) by omega]
theorem xs_rdAt (c : Cls K C) (n : NoAttr K C "at") (hi : ρ[i]? = some (.raw (.ref a))) (h : N ρ (insOb K C a dx (rdF t (p + 1) d))) : XS K (sFldAug K (tVar i) (tC (.int 1)) L2.rAdd "at") ρ (insOb K C a dx (rdF t p d)) N R B C' :=
  xs_fldAddV c n hi (by rfl) (by rfl) (xe_int ⟨1, rfl, rfl, by rw [put_at]; exact h⟩)
theorem xs_rdUp (c : Cls K C) (n : NoAttr K C "depth") (hi : ρ[i]? = some (.raw (.ref a))) (h : N ρ (insOb K C a dx (rdF t p (d + 1)))) : XS K (sFldAug K (tVar i) (tC (.int 1)) L2.rAdd "depth") ρ (insOb K C a dx (rdF t p d)) N R B C' :=
  xs_fldAddV c n hi (by rfl) (by rfl) (xe_int ⟨1, rfl, rfl, by rw [put_up]; exact h⟩)
theorem xs_rdDn (c : Cls K C) (n : NoAttr K C "depth") (hi : ρ[i]? = some (.raw (.ref a))) (h : N ρ (insOb K C a dx (rdF t p d))) : XS K (sFldAug K (tVar i) (tC (.int 1)) L2.rSub "depth") ρ (insOb K C a dx (rdF t p (d + 1))) N R B C' :=
  xs_fldSubV c n hi (by rfl) (by rfl) (xe_int ⟨1, rfl, rfl, by rw [put_dn]; exact h⟩)
end
/-- what a method that gives a result of the kind α promises -/
def RdS {α : Type} (K : PySem.W.Frag) (x dx : Addr) (t : Str) (r : Rs α) (f : α → PyData) (R : DV → Ob → Prop) (X : Ex → Ob → Prop) : Prop := match r with
  | .ok v p d => R (.d (f v)) (rdOb K x dx t p d)
  | .bad s e => ∀ ex p d, SynEx K s e ex → X ex (rdOb K x dx t p d)
  | .out => False
theorem rds_ok {α : Type} {K : PySem.W.Frag} {x dx : Addr} {t : Str} {v : α} {p d : Nat} {f : α → PyData} {R : DV → Ob → Prop} {X : Ex → Ob → Prop} (h : R (.d (f v)) (rdOb K x dx t p d)) : RdS K x dx t (.ok v p d) f R X := h
theorem rds_bad {α : Type} {K : PySem.W.Frag} {x dx : Addr} {t : Str} {s e : Nat} {f : α → PyData} {R : DV → Ob → Prop} {X : Ex → Ob → Prop} (h : ∀ ex p d, SynEx K s e ex → X ex (rdOb K x dx t p d)) : RdS K x dx t (.bad s e) f R X := h
def S_Reader_place (K : PySem.W.Frag) : DS := fun dvs o R X => ∃ (x dx : Addr) (t : Str) (p d : Nat), dvs = [.raw (.ref x)] ∧ o = rdOb K x dx t p d ∧ t.length ≤ 100000 ∧ R (.d (.tuple [nI (plc (ksT t) p).1, nI (plc (ksT t) p).2])) o
def S_Reader_sort_now (K : PySem.W.Frag) : DS := fun dvs o R X => ∃ (x dx : Addr) (t : Str) (p d : Nat), dvs = [.raw (.ref x)] ∧ o = rdOb K x dx t p d ∧ t.length ≤ 100000 ∧ R (.d (.str (srt (ksT t) p))) o
def S_Reader_fixed (K : PySem.W.Frag) : DS := fun dvs o R X => ∃ (x dx : Addr) (t : Str) (p d : Nat), dvs = [.raw (.ref x)] ∧ o = rdOb K x dx t p d ∧ t.length ≤ 100000 ∧ R (.d (.str (fx t (ksT t) p))) o
def S_Reader_need (K : PySem.W.Frag) : DS := fun dvs o R X => ∃ (x dx : Addr) (t : Str) (p d : Nat) (c : Bool), dvs = [.raw (.ref x), .d (.bool c)] ∧ o = rdOb K x dx t p d ∧ t.length ≤ 100000 ∧ RdS K x dx t (needR (ksT t) c p d) (fun _ => .none) R X
def S_Reader_take (K : PySem.W.Frag) : DS := fun dvs o R X => ∃ (x dx : Addr) (t : Str) (p d : Nat) (z : Str), dvs = [.raw (.ref x), .d (.str z)] ∧ o = rdOb K x dx t p d ∧ t.length ≤ 100000 ∧ RdS K x dx t (takeR t (ksT t) z p d) (fun _ => .none) R X
def S_Reader_try_take (K : PySem.W.Frag) : DS := fun dvs o R X => ∃ (x dx : Addr) (t : Str) (p d : Nat) (z : Str), dvs = [.raw (.ref x), .d (.str z)] ∧ o = rdOb K x dx t p d ∧ t.length ≤ 100000 ∧ (fx t (ksT t) p = z → R (.d (.bool true)) (rdOb K x dx t (p + 1) d)) ∧ (fx t (ksT t) p ≠ z → R (.d (.bool false)) o)
def S_Reader_mark (K : PySem.W.Frag) : DS := fun dvs o R X => ∃ (x dx : Addr) (t : Str) (p d : Nat), dvs = [.raw (.ref x)] ∧ o = rdOb K x dx t p d ∧ t.length ≤ 100000 ∧ RdS K x dx t (markR t (ksT t) p d) (fun m => .tuple [.str m.1, nI m.2]) R X
def S_Reader_begin (K : PySem.W.Frag) : DS := fun dvs o R X => ∃ (x dx : Addr) (t : Str) (p d : Nat), dvs = [.raw (.ref x)] ∧ o = rdOb K x dx t p d ∧ t.length ≤ 100000 ∧ RdS K x dx t (beginR (ksT t) p d) nI R X
def S_Reader_finish (K : PySem.W.Frag) : DS := fun dvs o R X => ∃ (x dx : Addr) (t : Str) (p d : Nat), dvs = [.raw (.ref x)] ∧ o = rdOb K x dx t p d ∧ t.length ≤ 100000 ∧ RdS K x dx t (needR (ksT t) (decide ((ksT t).length ≤ p)) p d) (fun _ => .none) R X
def S_Reader_last_end (K : PySem.W.Frag) : DS := fun dvs o R X => ∃ (x dx : Addr) (t : Str) (p d : Nat), dvs = [.raw (.ref x)] ∧ o = rdOb K x dx t p d ∧ t.length ≤ 100000 ∧ 0 < p ∧ p ≤ (ksT t).length ∧ R (.d (nI (lend (ksT t) p))) o
end DL

set_option Elab.async false
set_option linter.all false
set_option maxRecDepth 100000
set_option maxHeartbeats 1000000
namespace DL
open PySem PySem.Spec PyProof.Rows L2 TL
theorem toDs_map : ∀ l : List Tr, Tr.toDs l = l.map Tr.toD
  | [] => rfl
  | a :: r => by show a.toD :: Tr.toDs r = _; rw [toDs_map r]; rfl
theorem Rs.bind_ok {α β : Type} {r : Rs α} {f : α → Nat → Nat → Rs β} {y : β} {p' d' : Nat} (h : r.bind f = .ok y p' d') : ∃ x p d, r = .ok x p d ∧ f x p d = .ok y p' d' := by
  cases r with
  | ok x p d => exact ⟨x, p, d, rfl, h⟩
  | bad s e => cases h
  | out => cases h
section
variable {t : Str} {ks : List Tk}
theorem fx_lt {p : Nat} {x : Str} (h : fx t ks p = x) (hx : x ≠ "") : p < ks.length := by
  by_cases hp : p < ks.length
  · exact hp
  · exfalso
    unfold fx at h
    rw [srt_end (by omega), if_neg (by decide +kernel)] at h
    exact hx h.symm
theorem takeR_ok {x : Str} {p d p' d' : Nat} {u : Unit} (hx : x ≠ "") (h : takeR t ks x p d = .ok u p' d') : fx t ks p = x ∧ p' = p + 1 ∧ d' = d ∧ p < ks.length := by
  unfold takeR at h
  by_cases hf : fx t ks p = x
  · rw [if_pos hf] at h
    cases h
    exact ⟨hf, rfl, rfl, fx_lt hf hx⟩
  · rw [if_neg hf] at h
    cases h
theorem markR_ok {p d p' d' : Nat} {m : Str × Nat} (h : markR t ks p d = .ok m p' d') : p' = p + 1 ∧ d' = d ∧ p < ks.length := by
  unfold markR at h
  by_cases hf : srt ks p = "name"
  · rw [if_pos hf] at h
    cases h
    refine ⟨rfl, rfl, ?_⟩
    by_cases hp : p < ks.length
    · exact hp
    · exfalso
      rw [srt_end (by omega)] at hf
      exact absurd hf (by decide +kernel)
  · rw [if_neg hf] at h
    cases h
theorem beginR_ok {p d p' d' : Nat} {m : Nat} (h : beginR ks p d = .ok m p' d') : p' = p ∧ d' = d + 1 ∧ m = (plc ks p).1 := by
  unfold beginR at h
  by_cases hf : d < 30
  · rw [if_pos hf] at h
    cases h
    exact ⟨rfl, rfl, rfl⟩
  · rw [if_neg hf] at h
    cases h
theorem lvS_ne : ∀ l : Nat, lvS l ≠ ""
  | 0 => by decide +kernel
  | _ + 1 => show ("and" : Str) ≠ "" by decide +kernel
theorem sgn_ne {b : Bool} {x : Str} (h : sgn b x = true) : x ≠ "" := fun z => by
  subst z
  cases b <;> exact absurd h (by decide +kernel)
/-- a result leaves the depth, and goes on -/
def Fwd (ks : List Tk) (p d p' d' : Nat) : Prop := d' = d ∧ p ≤ p' ∧ (p ≤ ks.length → p' ≤ ks.length)
theorem pr_inv : ∀ (n : Nat) (md : Md) (p d : Nat) (x : Tr) (p' d' : Nat), pr t ks n md p d = .ok x p' d' → Fwd ks p d p' d' := by
  intro n
  induction n with
  | zero => intro md p d x p' d' h; cases h
  | succ n ih =>
    intro md p d x p' d' h
    cases md with
    | value =>
      obtain ⟨st, p1, d1, h1, h⟩ := Rs.bind_ok h
      have k1 := beginR_ok h1
      obtain ⟨y, p2, d2, h2, h⟩ := Rs.bind_ok h
      cases h
      have k2 : Fwd ks p1 d1 p' d2 := by
        by_cases c1 : fx t ks p1 = "let"
        · rw [if_pos c1] at h2; exact ih _ _ _ _ _ _ h2
        rw [if_neg c1] at h2
        by_cases c2 : fx t ks p1 = "if"
        · rw [if_pos c2] at h2; exact ih _ _ _ _ _ _ h2
        rw [if_neg c2] at h2
        by_cases c3 : fx t ks p1 = "loop"
        · rw [if_pos c3] at h2; exact ih _ _ _ _ _ _ h2
        rw [if_neg c3] at h2; exact ih _ _ _ _ _ _ h2
      unfold Fwd at *
      omega
    | letv st =>
      obtain ⟨_, p1, d1, h1, h⟩ := Rs.bind_ok h
      have k1 := takeR_ok (by decide +kernel) h1
      obtain ⟨_, p2, d2, h2, h⟩ := Rs.bind_ok h
      have k2 := markR_ok h2
      obtain ⟨_, p3, d3, h3, h⟩ := Rs.bind_ok h
      have k3 := takeR_ok (by decide +kernel) h3
      obtain ⟨_, p4, d4, h4, h⟩ := Rs.bind_ok h
      have k4 := ih _ _ _ _ _ _ h4
      obtain ⟨_, p5, d5, h5, h⟩ := Rs.bind_ok h
      have k5 := takeR_ok (by decide +kernel) h5
      obtain ⟨_, p6, d6, h6, h⟩ := Rs.bind_ok h
      have k6 := ih _ _ _ _ _ _ h6
      cases h
      unfold Fwd at *
      omega
    | ifv st =>
      obtain ⟨_, p1, d1, h1, h⟩ := Rs.bind_ok h
      have k1 := takeR_ok (by decide +kernel) h1
      obtain ⟨_, p2, d2, h2, h⟩ := Rs.bind_ok h
      have k2 := ih _ _ _ _ _ _ h2
      obtain ⟨_, p3, d3, h3, h⟩ := Rs.bind_ok h
      have k3 := takeR_ok (by decide +kernel) h3
      obtain ⟨_, p4, d4, h4, h⟩ := Rs.bind_ok h
      have k4 := ih _ _ _ _ _ _ h4
      obtain ⟨_, p5, d5, h5, h⟩ := Rs.bind_ok h
      have k5 := takeR_ok (by decide +kernel) h5
      obtain ⟨_, p6, d6, h6, h⟩ := Rs.bind_ok h
      have k6 := ih _ _ _ _ _ _ h6
      cases h
      unfold Fwd at *
      omega
    | loopv st =>
      obtain ⟨_, p1, d1, h1, h⟩ := Rs.bind_ok h
      have k1 := takeR_ok (by decide +kernel) h1
      obtain ⟨_, p2, d2, h2, h⟩ := Rs.bind_ok h
      have k2 := markR_ok h2
      obtain ⟨_, p3, d3, h3, h⟩ := Rs.bind_ok h
      have k3 := takeR_ok (by decide +kernel) h3
      obtain ⟨_, p4, d4, h4, h⟩ := Rs.bind_ok h
      have k4 := ih _ _ _ _ _ _ h4
      obtain ⟨_, p5, d5, h5, h⟩ := Rs.bind_ok h
      have k5 := takeR_ok (by decide +kernel) h5
      obtain ⟨_, p6, d6, h6, h⟩ := Rs.bind_ok h
      have k6 := ih _ _ _ _ _ _ h6
      obtain ⟨_, p7, d7, h7, h⟩ := Rs.bind_ok h
      have k7 := takeR_ok (by decide +kernel) h7
      obtain ⟨_, p8, d8, h8, h⟩ := Rs.bind_ok h
      have k8 := ih _ _ _ _ _ _ h8
      cases h
      unfold Fwd at *
      omega
    | either l =>
      have h : (if l = 2 then pr t ks n .negated p d else (pr t ks n (.either (l + 1)) p d).bind fun x p d => pr t ks n (.eloop l x) p d) = .ok x p' d' := h
      by_cases c : l = 2
      · rw [if_pos c] at h; exact ih _ _ _ _ _ _ h
      rw [if_neg c] at h
      obtain ⟨_, p1, d1, h1, h⟩ := Rs.bind_ok h
      have k1 := ih _ _ _ _ _ _ h1
      have k2 := ih _ _ _ _ _ _ h
      unfold Fwd at *
      omega
    | eloop l y =>
      have h : (if fx t ks p = lvS l then (pr t ks n (.either (l + 1)) (p + 1) d).bind fun z p' d => pr t ks n (.eloop l (.bin y.s z.e (fx t ks p) y z)) p' d else .ok y p d) = .ok x p' d' := h
      by_cases c : fx t ks p = lvS l
      · have := fx_lt c (lvS_ne l)
        rw [if_pos c] at h
        obtain ⟨_, p1, d1, h1, h⟩ := Rs.bind_ok h
        have k1 := ih _ _ _ _ _ _ h1
        have k2 := ih _ _ _ _ _ _ h
        unfold Fwd at *
        omega
      · rw [if_neg c] at h
        cases h
        unfold Fwd
        omega
    | negated =>
      have h : (if fx t ks p = "not" then (beginR ks p d).bind fun st p d => (takeR t ks "not" p d).bind fun _ p d => (pr t ks n .negated p d).bind fun x p d => .ok (.nt st x.e x) p (d - 1) else pr t ks n .compared p d) = .ok x p' d' := h
      by_cases c : fx t ks p = "not"
      · rw [if_pos c] at h
        obtain ⟨_, p1, d1, h1, h⟩ := Rs.bind_ok h
        have k1 := beginR_ok h1
        obtain ⟨_, p2, d2, h2, h⟩ := Rs.bind_ok h
        have k2 := takeR_ok (by decide +kernel) h2
        obtain ⟨_, p3, d3, h3, h⟩ := Rs.bind_ok h
        have k3 := ih _ _ _ _ _ _ h3
        cases h
        unfold Fwd at *
        omega
      · rw [if_neg c] at h; exact ih _ _ _ _ _ _ h
    | compared =>
      obtain ⟨y, p1, d1, h1, h⟩ := Rs.bind_ok h
      have k1 := ih _ _ _ _ _ _ h1
      by_cases c : fx t ks p1 = "==" ∨ fx t ks p1 = "<"
      · have : p1 < ks.length := c.elim (fun c => fx_lt c (by decide +kernel)) fun c => fx_lt c (by decide +kernel)
        rw [if_pos c] at h
        obtain ⟨_, p2, d2, h2, h⟩ := Rs.bind_ok h
        have k2 := ih _ _ _ _ _ _ h2
        cases h
        unfold Fwd at *
        omega
      · rw [if_neg c] at h
        cases h
        exact k1
    | chain b =>
      obtain ⟨y, p1, d1, h1, h⟩ := Rs.bind_ok h
      have k1 : Fwd ks p d p1 d1 := by
        cases b
        · exact ih _ _ _ _ _ _ h1
        · exact ih _ _ _ _ _ _ h1
      have k2 := ih _ _ _ _ _ _ h
      unfold Fwd at *
      omega
    | cloop b y =>
      have h : (if sgn b (fx t ks p) then (if b then pr t ks n (.chain false) (p + 1) d else pr t ks n .signed (p + 1) d).bind fun z p' d => pr t ks n (.cloop b (.bin y.s z.e (fx t ks p) y z)) p' d else .ok y p d) = .ok x p' d' := h
      by_cases c : sgn b (fx t ks p) = true
      · have := fx_lt (t := t) (ks := ks) (p := p) rfl (sgn_ne c)
        rw [if_pos c] at h
        obtain ⟨_, p1, d1, h1, h⟩ := Rs.bind_ok h
        have k1 : Fwd ks (p + 1) d p1 d1 := by
          cases b
          · exact ih _ _ _ _ _ _ h1
          · exact ih _ _ _ _ _ _ h1
        have k2 := ih _ _ _ _ _ _ h
        unfold Fwd at *
        omega
      · rw [if_neg c] at h
        cases h
        unfold Fwd
        omega
    | signed =>
      have h : (if fx t ks p = "-" then (beginR ks p d).bind fun st p d => (takeR t ks "-" p d).bind fun _ p d => (pr t ks n .signed p d).bind fun x p d => .ok (.mns st x.e x) p (d - 1) else pr t ks n .reached p d) = .ok x p' d' := h
      by_cases c : fx t ks p = "-"
      · rw [if_pos c] at h
        obtain ⟨_, p1, d1, h1, h⟩ := Rs.bind_ok h
        have k1 := beginR_ok h1
        obtain ⟨_, p2, d2, h2, h⟩ := Rs.bind_ok h
        have k2 := takeR_ok (by decide +kernel) h2
        obtain ⟨_, p3, d3, h3, h⟩ := Rs.bind_ok h
        have k3 := ih _ _ _ _ _ _ h3
        cases h
        unfold Fwd at *
        omega
      · rw [if_neg c] at h; exact ih _ _ _ _ _ _ h
    | reached =>
      obtain ⟨y, p1, d1, h1, h⟩ := Rs.bind_ok h
      have k1 := ih _ _ _ _ _ _ h1
      have k2 := ih _ _ _ _ _ _ h
      unfold Fwd at *
      omega
    | rloop y =>
      have h : (if fx t ks p = "." then (markR t ks (p + 1) d).bind fun m p d => pr t ks n (.rloop (.fld y.s (lend ks p) y m.1)) p d else .ok y p d) = .ok x p' d' := h
      by_cases c : fx t ks p = "."
      · rw [if_pos c] at h
        obtain ⟨_, p1, d1, h1, h⟩ := Rs.bind_ok h
        have k1 := markR_ok h1
        have k2 := ih _ _ _ _ _ _ h
        unfold Fwd at *
        omega
      · rw [if_neg c] at h
        cases h
        unfold Fwd
        omega
    | simple =>
      have h : (if srt ks p = "number" then .ok (.num (plc ks p).1 (plc ks p).2 (numV (tl (cutN t (plc ks p).1 (plc ks p).2)))) (p + 1) d
        else if fx t ks p = "True" ∨ fx t ks p = "False" then .ok (.tru (plc ks p).1 (plc ks p).2 (decide (cutN t (plc ks p).1 (plc ks p).2 = "True"))) (p + 1) d
        else if fx t ks p = "(" then (pr t ks n .value (p + 1) d).bind fun x p' d => (takeR t ks ")" p' d).bind fun _ p' d => .ok (.grp (plc ks p).1 (lend ks p') x) p' d
        else (markR t ks p d).bind fun m p' d => if fx t ks p' = "(" then (pr t ks n .args p' d).bind fun x p' d => .ok (.call (plc ks p).1 (lend ks p') m.1 x.parts) p' d else .ok (.nam (plc ks p).1 (plc ks p).2 m.1) p' d : Rs Tr) = .ok x p' d' := h
      by_cases c1 : srt ks p = "number"
      · rw [if_pos c1] at h
        cases h
        have : p < ks.length := by
          by_cases hp : p < ks.length
          · exact hp
          · exfalso
            rw [srt_end (by omega)] at c1
            exact absurd c1 (by decide +kernel)
        unfold Fwd
        omega
      rw [if_neg c1] at h
      by_cases c2 : fx t ks p = "True" ∨ fx t ks p = "False"
      · have : p < ks.length := c2.elim (fun c => fx_lt c (by decide +kernel)) fun c => fx_lt c (by decide +kernel)
        rw [if_pos c2] at h
        cases h
        unfold Fwd
        omega
      rw [if_neg c2] at h
      by_cases c3 : fx t ks p = "("
      · have := fx_lt c3 (by decide +kernel)
        rw [if_pos c3] at h
        obtain ⟨_, p1, d1, h1, h⟩ := Rs.bind_ok h
        have k1 := ih _ _ _ _ _ _ h1
        obtain ⟨_, p2, d2, h2, h⟩ := Rs.bind_ok h
        have k2 := takeR_ok (by decide +kernel) h2
        cases h
        unfold Fwd at *
        omega
      rw [if_neg c3] at h
      obtain ⟨m, p1, d1, h1, h⟩ := Rs.bind_ok h
      have k1 := markR_ok h1
      by_cases c4 : fx t ks p1 = "("
      · rw [if_pos c4] at h
        obtain ⟨_, p2, d2, h2, h⟩ := Rs.bind_ok h
        have k2 := ih _ _ _ _ _ _ h2
        cases h
        unfold Fwd at *
        omega
      · rw [if_neg c4] at h
        cases h
        unfold Fwd
        omega
    | args =>
      obtain ⟨_, p1, d1, h1, h⟩ := Rs.bind_ok h
      have k1 := takeR_ok (by decide +kernel) h1
      by_cases c : fx t ks p1 = ")"
      · have := fx_lt c (by decide +kernel)
        rw [if_pos c] at h
        cases h
        unfold Fwd at *
        omega
      · rw [if_neg c] at h
        obtain ⟨_, p2, d2, h2, h⟩ := Rs.bind_ok h
        have k2 := ih _ _ _ _ _ _ h2
        have k3 := ih _ _ _ _ _ _ h
        unfold Fwd at *
        omega
    | aloop acc =>
      have h : (if fx t ks p = "," then (pr t ks n .value (p + 1) d).bind fun x p d => pr t ks n (.aloop (acc ++ [x])) p d else (takeR t ks ")" p d).bind fun _ p d => .ok (.call 0 0 "" acc) p d) = .ok x p' d' := h
      by_cases c : fx t ks p = ","
      · have := fx_lt c (by decide +kernel)
        rw [if_pos c] at h
        obtain ⟨_, p2, d2, h2, h⟩ := Rs.bind_ok h
        have k2 := ih _ _ _ _ _ _ h2
        have k3 := ih _ _ _ _ _ _ h
        unfold Fwd at *
        omega
      · rw [if_neg c] at h
        obtain ⟨_, p2, d2, h2, h⟩ := Rs.bind_ok h
        have k2 := takeR_ok (by decide +kernel) h2
        cases h
        unfold Fwd at *
        omega
end
/-! ### the promises of the methods that call each other, at most n of fuel -/
def RdM (K : PySem.W.Frag) (n : Nat) (md : Md) (x dx : Addr) (t : Str) (p d : Nat) (f : Tr → PyData) (R : DV → Ob → Prop) (X : Ex → Ob → Prop) : Prop := t.length ≤ 100000 ∧ p ≤ (ksT t).length ∧ ∃ m, m ≤ n ∧ RdS K x dx t (pr t (ksT t) m md p d) f R X
theorem rds_bind {α β : Type} {K : PySem.W.Frag} {x dx : Addr} {t : Str} {r : Rs α} {g : α → Nat → Nat → Rs β} {f : β → PyData} {f' : α → PyData} {R R' : DV → Ob → Prop} {X X' : Ex → Ob → Prop} (h : RdS K x dx t (r.bind g) f R X)
    (k : ∀ v p d, r = .ok v p d → RdS K x dx t (g v p d) f R X → R' (.d (f' v)) (rdOb K x dx t p d)) (kx : ∀ ex o, X ex o → X' ex o) : RdS K x dx t r f' R' X' := by
  cases r with
  | ok v p d => exact k v p d rfl h
  | bad s e => exact fun ex p d z => kx _ _ (h ex p d z)
  | out => exact h
theorem rds_last {α : Type} {K : PySem.W.Frag} {x dx : Addr} {t : Str} {r : Rs α} {f f' : α → PyData} {R R' : DV → Ob → Prop} {X X' : Ex → Ob → Prop} (h : RdS K x dx t r f R X)
    (k : ∀ v p d, r = .ok v p d → R (.d (f v)) (rdOb K x dx t p d) → R' (.d (f' v)) (rdOb K x dx t p d)) (kx : ∀ ex o, X ex o → X' ex o) : RdS K x dx t r f' R' X' := by
  cases r with
  | ok v p d => exact k v p d rfl h
  | bad s e => exact fun ex p d z => kx _ _ (h ex p d z)
  | out => exact h
def S_Reader_value (n : Nat) (K : PySem.W.Frag) : DS := fun dvs o R X => ∃ (x dx : Addr) (t : Str) (p d : Nat), dvs = [.raw (.ref x)] ∧ o = rdOb K x dx t p d ∧ RdM K n .value x dx t p d Tr.toD R X
def S_Reader_let_value (n : Nat) (K : PySem.W.Frag) : DS := fun dvs o R X => ∃ (x dx : Addr) (t : Str) (p d st : Nat), dvs = [.raw (.ref x), .d (nI st)] ∧ o = rdOb K x dx t p d ∧ RdM K n (.letv st) x dx t p d Tr.toD R X
def S_Reader_if_value (n : Nat) (K : PySem.W.Frag) : DS := fun dvs o R X => ∃ (x dx : Addr) (t : Str) (p d st : Nat), dvs = [.raw (.ref x), .d (nI st)] ∧ o = rdOb K x dx t p d ∧ RdM K n (.ifv st) x dx t p d Tr.toD R X
def S_Reader_loop_value (n : Nat) (K : PySem.W.Frag) : DS := fun dvs o R X => ∃ (x dx : Addr) (t : Str) (p d st : Nat), dvs = [.raw (.ref x), .d (nI st)] ∧ o = rdOb K x dx t p d ∧ RdM K n (.loopv st) x dx t p d Tr.toD R X
def S_Reader_either (n : Nat) (K : PySem.W.Frag) : DS := fun dvs o R X => ∃ (x dx : Addr) (t : Str) (p d l : Nat), dvs = [.raw (.ref x), .d (nI l)] ∧ o = rdOb K x dx t p d ∧ l ≤ 2 ∧ RdM K n (.either l) x dx t p d Tr.toD R X
def S_Reader_negated (n : Nat) (K : PySem.W.Frag) : DS := fun dvs o R X => ∃ (x dx : Addr) (t : Str) (p d : Nat), dvs = [.raw (.ref x)] ∧ o = rdOb K x dx t p d ∧ RdM K n .negated x dx t p d Tr.toD R X
def S_Reader_compared (n : Nat) (K : PySem.W.Frag) : DS := fun dvs o R X => ∃ (x dx : Addr) (t : Str) (p d : Nat), dvs = [.raw (.ref x)] ∧ o = rdOb K x dx t p d ∧ RdM K n .compared x dx t p d Tr.toD R X
def sgnD (b : Bool) : PyData := if b then .tuple [.str "+", .str "-"] else .tuple [.str "*", .str "/"]
def S_Reader_chain (n : Nat) (K : PySem.W.Frag) : DS := fun dvs o R X => ∃ (x dx : Addr) (t : Str) (p d : Nat) (b : Bool), dvs = [.raw (.ref x), .d (sgnD b)] ∧ o = rdOb K x dx t p d ∧ RdM K n (.chain b) x dx t p d Tr.toD R X
def S_Reader_signed (n : Nat) (K : PySem.W.Frag) : DS := fun dvs o R X => ∃ (x dx : Addr) (t : Str) (p d : Nat), dvs = [.raw (.ref x)] ∧ o = rdOb K x dx t p d ∧ RdM K n .signed x dx t p d Tr.toD R X
def S_Reader_reached (n : Nat) (K : PySem.W.Frag) : DS := fun dvs o R X => ∃ (x dx : Addr) (t : Str) (p d : Nat), dvs = [.raw (.ref x)] ∧ o = rdOb K x dx t p d ∧ RdM K n .reached x dx t p d Tr.toD R X
def S_Reader_simple (n : Nat) (K : PySem.W.Frag) : DS := fun dvs o R X => ∃ (x dx : Addr) (t : Str) (p d : Nat), dvs = [.raw (.ref x)] ∧ o = rdOb K x dx t p d ∧ RdM K n .simple x dx t p d Tr.toD R X
def S_Reader_arguments (n : Nat) (K : PySem.W.Frag) : DS := fun dvs o R X => ∃ (x dx : Addr) (t : Str) (p d : Nat), dvs = [.raw (.ref x)] ∧ o = rdOb K x dx t p d ∧ RdM K n .args x dx t p d (fun a => .tuple (Tr.toDs a.parts)) R X
/-- digits spell a number -/
def S_number_value (_ : PySem.W.Frag) : DS := fun dvs o R X => ∃ z : Str, dvs = [.d (.str z)] ∧ (∀ c ∈ tl z, 48 ≤ c ∧ c ≤ 57) ∧ R (.d (nI (numV (tl z)))) o
end DL

set_option Elab.async false
set_option linter.all false
set_option maxRecDepth 100000
namespace DL
open PySem PySem.Spec PyProof.Rows L2 TL
/-! ### texts out of pieces: a gap and a token each -/
structure Pc where
  g : Str
  z : Str
def flat : List Pc → List Nat
  | [] => []
  | x :: r => tl x.g ++ (tl x.z ++ flat r)
def flen : List Pc → Nat
  | [] => 0
  | x :: r => x.g.length + x.z.length + flen r
theorem flat_app (r : List Pc) : ∀ l, flat (l ++ r) = flat l ++ flat r
  | [] => rfl
  | x :: l => by
    show tl x.g ++ (tl x.z ++ flat (l ++ r)) = (tl x.g ++ (tl x.z ++ flat l)) ++ flat r
    rw [flat_app r l, List.append_assoc, List.append_assoc]
theorem flen_app (r : List Pc) : ∀ l, flen (l ++ r) = flen l + flen r
  | [] => by rw [List.nil_append]; show flen r = 0 + flen r; omega
  | x :: l => by
    show x.g.length + x.z.length + flen (l ++ r) = x.g.length + x.z.length + flen l + flen r
    rw [flen_app r l]; omega
theorem flat_len : ∀ l, (flat l).length = flen l
  | [] => rfl
  | x :: l => by
    show (tl x.g ++ (tl x.z ++ flat l)).length = x.g.length + x.z.length + flen l
    rw [List.length_append, List.length_append, flat_len l, ← len_tl, ← len_tl]; omega
theorem scan_cons (a b : Nat) (m : Bool) (c : Nat) (r : List Nat) : scanT a b m (c :: r) = if a < b ∨ (m = true ∧ c ≠ 10) ∨ c = 32 ∨ c = 10 then scanT (a + 1) b (m && c != 10) r else if c = 35 then scanT (a + 1) b true r else tokC a c r :: scanT (a + 1) (tokC a c r).b false r := by
  conv => lhs; unfold scanT
/-! ### gaps -/
def gapB : Bool → List Nat → Bool
  | m, [] => !m
  | false, c :: r => ((c == 32 || c == 10) && gapB false r) || (c == 35 && gapB true r)
  | true, c :: r => if c = 10 then gapB false r else gapB true r
theorem gap_ok : ∀ (g : List Nat) (m : Bool) (a b : Nat) (r : List Nat), b ≤ a → gapB m g = true → scanT a b m (g ++ r) = scanT (a + g.length) (a + g.length) false r
  | [], m, a, b, r, h, hg => by
    cases m with
    | true => cases hg
    | false => exact scan_low r a b a false h (Nat.le_refl _)
  | c :: g, false, a, b, r, h, hg => by
    have e1 : ¬ a < b := by omega
    unfold gapB at hg
    have l : (c :: g).length = g.length + 1 := rfl
    have e2 : a + (c :: g).length = a + 1 + g.length := by rw [l]; omega
    rw [e2]
    show scanT a b false (c :: (g ++ r)) = _
    by_cases hc : c = 32 ∨ c = 10
    · rw [scan_cons, if_pos (Or.inr (Or.inr hc)), Bool.false_and]
      have hn : (c == 35) = false := by rcases hc with rfl | rfl <;> rfl
      rw [hn, Bool.false_and, Bool.or_false] at hg
      rw [Bool.and_eq_true] at hg
      exact gap_ok g false (a + 1) b r (by omega) hg.2
    · have h1 : (c == 32 || c == 10) = false := by
        rw [not_or] at hc
        simp [hc.1, hc.2]
      rw [h1, Bool.false_and, Bool.false_or, Bool.and_eq_true] at hg
      have h2 : c = 35 := by simpa using hg.1
      rw [scan_cons, if_neg (fun z => by rcases z with z | z | z; exact e1 z; exact nomatch z.1; exact hc z), if_pos h2]
      exact gap_ok g true (a + 1) b r (by omega) hg.2
  | c :: g, true, a, b, r, h, hg => by
    have e1 : ¬ a < b := by omega
    unfold gapB at hg
    have l : (c :: g).length = g.length + 1 := rfl
    have e2 : a + (c :: g).length = a + 1 + g.length := by rw [l]; omega
    rw [e2]
    show scanT a b true (c :: (g ++ r)) = _
    by_cases hc : c = 10
    · rw [if_pos hc] at hg
      rw [scan_cons, if_pos (Or.inr (Or.inr (Or.inr hc)))]
      have : (true && c != 10) = false := by simp [hc]
      rw [this]
      exact gap_ok g false (a + 1) b r (by omega) hg
    · rw [if_neg hc] at hg
      rw [scan_cons, if_pos (Or.inr (Or.inl ⟨rfl, hc⟩))]
      have : (true && c != 10) = true := by simp [hc]
      rw [this]
      exact gap_ok g true (a + 1) b r (by omega) hg
/-! ### words -/
def sortW : List Nat → Str
  | [] => ""
  | c :: r => (tokC 0 c r).s
def wordB : List Nat → Bool
  | [] => false
  | c :: r => c != 32 && c != 10 && c != 35 && decide ((tokC 0 c r).b = r.length + 1)
/-- what stands behind does not melt with the end -/
def Mel (z x : List Nat) : Prop := ∀ c d, z.getLast? = some c → x.head? = some d → (isNam c = true → isNam d = false) ∧ (c = 61 → d ≠ 61)
theorem run_all {p : Nat → Bool} : ∀ {l : List Nat}, run p l = l.length → ∀ c ∈ l, p c = true
  | [], _, c, hc => nomatch hc
  | d :: r, h, c, hc => by
    unfold run at h
    by_cases hd : p d = true
    · rw [if_pos hd] at h
      rcases List.mem_cons.mp hc with rfl | hc
      · exact hd
      · exact run_all (l := r) (by simpa using h) c hc
    · rw [if_neg hd] at h
      cases h
theorem run_app {p : Nat → Bool} {x : List Nat} (hx : ∀ d, x.head? = some d → p d = false) : ∀ {l : List Nat}, run p l = l.length → run p (l ++ x) = l.length
  | [], _ => by
    cases x with
    | nil => rfl
    | cons d x =>
      show run p (d :: x) = 0
      unfold run
      rw [if_neg (by rw [hx d rfl]; decide)]
  | d :: r, h => by
    unfold run at h
    by_cases hd : p d = true
    · rw [if_pos hd] at h
      show run p (d :: (r ++ x)) = _
      unfold run
      rw [if_pos hd, run_app hx (l := r) (by simpa using h)]
      rfl
    · rw [if_neg hd] at h
      cases h
theorem isDig_nam {c : Nat} (h : isDig c = true) : isNam c = true := by unfold isNam; rw [h]; simp
theorem last_mem {z : List Nat} {c : Nat} (h : z.getLast? = some c) : c ∈ z := List.mem_of_getLast? h
theorem tok_app {c : Nat} {r x : List Nat} (a : Nat) (hb : (tokC 0 c r).b = r.length + 1) (hm : Mel (c :: r) x) : tokC a c (r ++ x) = ⟨(tokC 0 c r).s, a, a + (r.length + 1)⟩ := by
  obtain ⟨z, hz⟩ : ∃ z, (c :: r).getLast? = some z := ⟨_, List.getLast?_eq_some_getLast (by simp)⟩
  have hzm := last_mem hz
  unfold tokC at hb
  by_cases h1 : isLet c = true
  · rw [if_pos h1] at hb
    have hb : 0 + run isNam (c :: r) = r.length + 1 := hb
    have hr : run isNam (c :: r) = (c :: r).length := by rw [List.length_cons]; omega
    have hx : ∀ d, x.head? = some d → isNam d = false := fun d hd => (hm z d hz hd).1 (run_all hr z hzm)
    have ha := run_app hx hr
    have ha : run isNam (c :: (r ++ x)) = r.length + 1 := ha
    unfold tokC
    rw [if_pos h1, if_pos h1, ha, hr]
    have e1 : (c :: (r ++ x)).take (r.length + 1) = c :: r := by
      rw [List.take_succ_cons, List.take_append_of_le_length (Nat.le_refl _), List.take_length]
    have e2 : (c :: r).take (c :: r).length = c :: r := List.take_length
    rw [e1, e2]
  · rw [if_neg h1] at hb
    by_cases h2 : isDig c = true
    · rw [if_pos h2] at hb
      have hb : 0 + run isDig (c :: r) = r.length + 1 := hb
      have hr : run isDig (c :: r) = (c :: r).length := by rw [List.length_cons]; omega
      have hx : ∀ d, x.head? = some d → isDig d = false := fun d hd => by
        have := (hm z d hz hd).1 (isDig_nam (run_all hr z hzm))
        cases e : isDig d with
        | false => rfl
        | true => rw [isDig_nam e] at this; cases this
      have ha := run_app hx hr
      have ha : run isDig (c :: (r ++ x)) = r.length + 1 := ha
      unfold tokC
      rw [if_neg h1, if_neg h1, if_pos h2, if_pos h2, ha]
    · rw [if_neg h2] at hb
      by_cases h3 : (c :: r).take 2 = [61, 61]
      · rw [if_pos h3] at hb
        have hb : 0 + 2 = r.length + 1 := hb
        have h4 : (c :: (r ++ x)).take 2 = [61, 61] := by
          have : (c :: (r ++ x)) = (c :: r) ++ x := rfl
          rw [this, List.take_append_of_le_length (by rw [List.length_cons]; omega)]
          exact h3
        unfold tokC
        rw [if_neg h1, if_neg h1, if_neg h2, if_neg h2, if_pos h3, if_pos h4, ← hb]
      · rw [if_neg h3] at hb
        have hb : 0 + 1 = r.length + 1 := hb
        have hr0 : r = [] := List.eq_nil_of_length_eq_zero (by omega)
        subst hr0
        have h4 : ¬ (c :: ([] ++ x)).take 2 = [61, 61] := fun h => by
          cases x with
          | nil => cases h
          | cons d x =>
            have h : [c, d] = [61, 61] := h
            cases h
            exact (hm 61 61 rfl rfl).2 rfl rfl
        unfold tokC
        rw [if_neg h1, if_neg h1, if_neg h2, if_neg h2, if_neg h3, if_neg h4]
        rfl
/-- a token stands there -/
theorem scan_word {z x : List Nat} (a : Nat) (hz : wordB z = true) (hm : Mel z x) : scanT a a false (z ++ x) = ⟨sortW z, a, a + z.length⟩ :: scanT (a + z.length) (a + z.length) false x := by
  cases z with
  | nil => cases hz
  | cons c r =>
    unfold wordB at hz
    rw [Bool.and_eq_true, Bool.and_eq_true, Bool.and_eq_true] at hz
    obtain ⟨⟨⟨n1, n2⟩, n3⟩, hb⟩ := hz
    have n1 : c ≠ 32 := by simpa using n1
    have n2 : c ≠ 10 := by simpa using n2
    have n3 : c ≠ 35 := by simpa using n3
    have hb := of_decide_eq_true hb
    have ht := tok_app a hb hm
    show scanT a a false (c :: (r ++ x)) = _
    rw [scan_cons, if_neg (fun z => by rcases z with z | z | z | z; omega; exact nomatch z.1; exact n1 z; exact n2 z), if_neg n3, ht]
    show (⟨(tokC 0 c r).s, a, a + (r.length + 1)⟩ :: scanT (a + 1) (a + (r.length + 1)) false (r ++ x) : List Tk) = ⟨sortW (c :: r), a, a + (c :: r).length⟩ :: scanT (a + (c :: r).length) (a + (c :: r).length) false x
    have e : scanT (a + 1) (a + (r.length + 1)) false (r ++ x) = scanT (a + (r.length + 1)) (a + (r.length + 1)) false x := by
      rw [scan_pass (r ++ x) (a + 1) (a + (r.length + 1)) (by omega), show a + (r.length + 1) - (a + 1) = r.length by omega, List.drop_left]
    rw [e]
    rfl
/-! ### good pieces -/
def Good : List Pc → Prop
  | [] => True
  | x :: r => gapB false (tl x.g) = true ∧ wordB (tl x.z) = true ∧ Mel (tl x.z) (flat r) ∧ Good r
def toksP : Nat → List Pc → List Tk
  | _, [] => []
  | a, x :: r => ⟨sortW (tl x.z), a + x.g.length, a + x.g.length + x.z.length⟩ :: toksP (a + x.g.length + x.z.length) r
theorem toks_good : ∀ (ps : List Pc) (a : Nat), Good ps → scanT a a false (flat ps) = toksP a ps
  | [], a, _ => rfl
  | x :: r, a, ⟨h1, h2, h3, h4⟩ => by
    show scanT a a false (tl x.g ++ (tl x.z ++ flat r)) = _
    rw [gap_ok _ _ _ _ _ (Nat.le_refl _) h1, scan_word _ h2 h3, toks_good r _ h4, ← len_tl, ← len_tl]
    rfl
theorem word_ne {z : List Nat} (h : wordB z = true) : z ≠ [] := fun e => by rw [e] at h; cases h
theorem flat_ne {x : Pc} {r : List Pc} (h : wordB (tl x.z) = true) : flat (x :: r) ≠ [] := fun e => by
  have e : tl x.g ++ (tl x.z ++ flat r) = [] := e
  rw [List.append_eq_nil_iff, List.append_eq_nil_iff] at e
  exact word_ne h e.2.1
theorem good_snoc {n : Pc} (hg : gapB false (tl n.g) = true) (hz : wordB (tl n.z) = true) : ∀ (ps : List Pc), Good ps → Mel (flat ps) (tl n.g ++ tl n.z) → Good (ps ++ [n])
  | [], _, _ => ⟨hg, hz, fun c d _ hd => (by cases hd), trivial⟩
  | x :: r, ⟨h1, h2, h3, h4⟩, hm => by
    refine ⟨h1, h2, ?_, good_snoc hg hz r h4 ?_⟩
    · cases r with
      | nil =>
        intro c d hc hd
        refine hm c d ?_ ?_
        · show (tl x.g ++ (tl x.z ++ [])).getLast? = some c
          rw [List.append_nil, List.getLast?_append, hc]; rfl
        · have hd : (tl n.g ++ (tl n.z ++ [])).head? = some d := hd
          rwa [List.append_nil] at hd
      | cons y r =>
        intro c d hc hd
        refine h3 c d hc ?_
        have hd : (flat ((y :: r) ++ [n])).head? = some d := hd
        rw [flat_app] at hd
        cases e : flat (y :: r) with
        | nil => exact absurd e (flat_ne h4.2.1)
        | cons u v => rw [e] at hd; exact hd
    · intro c d hc hd
      refine hm c d ?_ hd
      show (tl x.g ++ (tl x.z ++ flat r)).getLast? = some c
      rw [List.getLast?_append, List.getLast?_append, hc]; rfl
theorem good_app {r : List Pc} : ∀ {l : List Pc}, Good (l ++ r) → Good r
  | [], h => h
  | _ :: _, h => good_app h.2.2.2
/-- a text of these pieces -/
structure Doc (t : Str) (ps : List Pc) : Prop where
  e : tl t = flat ps
  g : Good ps
theorem Doc.len {t : Str} {ps : List Pc} (h : Doc t ps) : t.length = flen ps := by rw [len_tl, h.e, flat_len]
theorem Doc.toks {t : Str} {ps : List Pc} (h : Doc t ps) : ksT t = toksP 0 ps := by
  show scanT 0 0 false (tl t) = _
  rw [h.e, toks_good _ _ h.g]
theorem toksP_len : ∀ (ps : List Pc) (a : Nat), (toksP a ps).length = ps.length
  | [], _ => rfl
  | _ :: r, a => by unfold toksP; rw [List.length_cons, toksP_len r, List.length_cons]
theorem Doc.count {t : Str} {ps : List Pc} (h : Doc t ps) : (ksT t).length = ps.length := by rw [h.toks, toksP_len]
theorem doc_nil : Doc "" [] := ⟨rfl, trivial⟩
theorem Doc.snoc {t g z : Str} {ps : List Pc} (h : Doc t ps) (hg : gapB false (tl g) = true) (hz : wordB (tl z) = true) (hm : Mel (tl t) (tl g ++ tl z)) : Doc (t ++ g ++ z) (ps ++ [⟨g, z⟩]) := by
  refine ⟨?_, good_snoc hg hz ps h.g (by rw [← h.e]; exact hm)⟩
  rw [app_tl, app_tl, flat_app, h.e, List.append_assoc]
  show _ = flat ps ++ (tl g ++ (tl z ++ []))
  rw [List.append_nil]
/-! ### the tokens of a stretch of pieces -/
def Seq (t : Str) (ks : List Tk) : Nat → Nat → List Pc → Prop
  | _, _, [] => True
  | p, s, x :: r => (ks[p]? = some ⟨sortW (tl x.z), s + x.g.length, s + x.g.length + x.z.length⟩ ∧ cutN t (s + x.g.length) (s + x.g.length + x.z.length) = x.z) ∧ Seq t ks (p + 1) (s + x.g.length + x.z.length) r
theorem seq_app {t : Str} {ks : List Tk} {r : List Pc} : ∀ {l : List Pc} {p s : Nat}, Seq t ks p s (l ++ r) → Seq t ks p s l ∧ Seq t ks (p + l.length) (s + flen l) r
  | [], p, s, h => ⟨trivial, h⟩
  | x :: l, p, s, ⟨h1, h2⟩ => by
    obtain ⟨h3, h4⟩ := seq_app h2
    refine ⟨⟨h1, h3⟩, ?_⟩
    rw [show p + (x :: l).length = p + 1 + l.length by rw [List.length_cons]; omega, show s + flen (x :: l) = s + x.g.length + x.z.length + flen l by show s + (x.g.length + x.z.length + flen l) = _; omega]
    exact h4
theorem toksP_at (y : Pc) (r : List Pc) : ∀ (l : List Pc) (a : Nat), (toksP a (l ++ y :: r))[l.length]? = some ⟨sortW (tl y.z), a + flen l + y.g.length, a + flen l + y.g.length + y.z.length⟩
  | [], a => rfl
  | x :: l, a => by
    have := toksP_at y r l (a + x.g.length + x.z.length)
    show (toksP (a + x.g.length + x.z.length) (l ++ y :: r))[l.length]? = _
    rw [this, show a + x.g.length + x.z.length + flen l = a + flen (x :: l) by show _ = a + (x.g.length + x.z.length + flen l); omega]
theorem seq_doc {t : Str} {ps : List Pc} (h : Doc t ps) : ∀ (zs pre post : List Pc), ps = pre ++ (zs ++ post) → Seq t (ksT t) pre.length (flen pre) zs
  | [], _, _, _ => trivial
  | x :: zs, pre, post, e => by
    have ih := seq_doc h zs (pre ++ [x]) post (by rw [e, List.append_assoc]; rfl)
    rw [List.length_append, flen_app] at ih
    refine ⟨⟨?_, ?_⟩, ?_⟩
    · rw [h.toks, e]
      show (toksP 0 (pre ++ x :: (zs ++ post)))[pre.length]? = _
      rw [toksP_at, Nat.zero_add]
    · refine str_ext ?_
      unfold cutN
      rw [tl_cutN, h.e, e, flat_app]
      show ((flat pre ++ (tl x.g ++ (tl x.z ++ flat (zs ++ post)))).take (flen pre + x.g.length + x.z.length)).drop (flen pre + x.g.length) = tl x.z
      rw [show flat pre ++ (tl x.g ++ (tl x.z ++ flat (zs ++ post))) = (flat pre ++ tl x.g) ++ (tl x.z ++ flat (zs ++ post)) by rw [List.append_assoc]]
      have hl : (flat pre ++ tl x.g).length = flen pre + x.g.length := by rw [List.length_append, flat_len, ← len_tl]
      rw [← hl, len_tl x.z, List.take_length_add_append, List.take_left, List.drop_left]
    · have e1 : flen [x] = x.g.length + x.z.length := rfl
      rw [e1, ← Nat.add_assoc] at ih
      exact ih
end DL

set_option Elab.async false
set_option linter.all false
set_option maxRecDepth 100000
namespace DL
open PySem PySem.Spec PyProof.Rows L2 TL
/-! ### printed trees -/
inductive Pm where
  | val
  | lv (L : Nat)
  | ch (k : Nat)
  | as
def opk : Nat → Str → Prop
  | 0, x => x = "or"
  | 1, x => x = "and"
  | 2, x => x = "==" ∨ x = "<"
  | 3, x => x = "+" ∨ x = "-"
  | 4, x => x = "*" ∨ x = "/"
  | _, _ => False
def nameW (z : Str) : Prop := sortW (tl z) = "name"
inductive Pri : Pm → Nat → Nat → Tr → List Pc → Prop
  | num {L dep s : Nat} {g z : Str} : sortW (tl z) = "number" → Pri (.lv L) dep s (.num (s + g.length) (s + g.length + z.length) (numV (tl z))) [⟨g, z⟩]
  | tru {L dep s : Nat} {g z : Str} : z = "True" ∨ z = "False" → Pri (.lv L) dep s (.tru (s + g.length) (s + g.length + z.length) (decide (z = "True"))) [⟨g, z⟩]
  | nam {L dep s : Nat} {g z : Str} : nameW z → Pri (.lv L) dep s (.nam (s + g.length) (s + g.length + z.length) z) [⟨g, z⟩]
  | call0 {L dep s : Nat} {g z g2 g3 : Str} : nameW z → Pri (.lv L) (dep + 1) s (.call (s + g.length) (s + flen [⟨g, z⟩, ⟨g2, "("⟩, ⟨g3, ")"⟩]) z []) [⟨g, z⟩, ⟨g2, "("⟩, ⟨g3, ")"⟩]
  | call {L dep s : Nat} {g z g2 g3 : Str} {c : Tr} {zs : List Pc} : nameW z → Pri .as dep (s + flen [⟨g, z⟩, ⟨g2, "("⟩]) c zs → Pri (.lv L) (dep + 1) s (.call (s + g.length) (s + flen (⟨g, z⟩ :: ⟨g2, "("⟩ :: (zs ++ [⟨g3, ")"⟩]))) z c.parts) (⟨g, z⟩ :: ⟨g2, "("⟩ :: (zs ++ [⟨g3, ")"⟩]))
  | one {dep s : Nat} {a : Tr} {zs : List Pc} : Pri .val dep s a zs → Pri .as dep s (.call 0 0 "" [a]) zs
  | more {dep s : Nat} {g : Str} {c b : Tr} {zs ws : List Pc} : Pri .as dep s c zs → Pri .val dep (s + flen (zs ++ [⟨g, ","⟩])) b ws → Pri .as dep s (.call 0 0 "" (c.parts ++ [b])) (zs ++ ⟨g, ","⟩ :: ws)
  | fld {L dep s : Nat} {g1 g2 n : Str} {a : Tr} {zs : List Pc} : Pri (.lv 6) dep s a zs → nameW n → Pri (.lv L) dep s (.fld a.s (s + flen (zs ++ [⟨g1, "."⟩, ⟨g2, n⟩])) a n) (zs ++ [⟨g1, "."⟩, ⟨g2, n⟩])
  | grp {L dep s : Nat} {g g2 : Str} {a : Tr} {zs : List Pc} : Pri .val dep (s + flen [⟨g, "("⟩]) a zs → Pri (.lv L) (dep + 1) s (.grp (s + g.length) (s + flen (⟨g, "("⟩ :: (zs ++ [⟨g2, ")"⟩]))) a) (⟨g, "("⟩ :: (zs ++ [⟨g2, ")"⟩]))
  | mns {L dep s : Nat} {g : Str} {a : Tr} {zs : List Pc} : L ≤ 5 → Pri (.lv 5) dep (s + flen [⟨g, "-"⟩]) a zs → Pri (.lv L) (dep + 1) s (.mns (s + g.length) a.e a) (⟨g, "-"⟩ :: zs)
  | nt {L dep s : Nat} {g : Str} {a : Tr} {zs : List Pc} : L ≤ 2 → Pri (.lv 2) dep (s + flen [⟨g, "not"⟩]) a zs → Pri (.lv L) (dep + 1) s (.nt (s + g.length) a.e a) (⟨g, "not"⟩ :: zs)
  | cmp {L dep dep' s : Nat} {g x : Str} {a b : Tr} {zs ws : List Pc} : L ≤ 2 → dep ≤ dep' → opk 2 x → Pri (.lv 3) dep s a zs → Pri (.lv 3) dep (s + flen (zs ++ [⟨g, x⟩])) b ws → Pri (.lv L) dep' s (.bin a.s b.e x a b) (zs ++ ⟨g, x⟩ :: ws)
  | base {k dep s : Nat} {a : Tr} {zs : List Pc} : Pri (.lv (k + 1)) dep s a zs → Pri (.ch k) dep s a zs
  | step {k dep s : Nat} {g x : Str} {a b : Tr} {zs ws : List Pc} : opk k x → k ≠ 2 → Pri (.ch k) dep s a zs → Pri (.lv (k + 1)) dep (s + flen (zs ++ [⟨g, x⟩])) b ws → Pri (.ch k) dep s (.bin a.s b.e x a b) (zs ++ ⟨g, x⟩ :: ws)
  | chn {k L dep dep' s : Nat} {a : Tr} {zs : List Pc} : L ≤ k → k ≤ 4 → k ≠ 2 → dep ≤ dep' → Pri (.ch k) dep s a zs → Pri (.lv L) dep' s a zs
  | lo {dep s : Nat} {a : Tr} {zs : List Pc} : Pri (.lv 0) dep s a zs → Pri .val dep s a zs
  | lt {dep s : Nat} {g1 g2 g3 g4 n : Str} {a b : Tr} {zs ws : List Pc} : nameW n → Pri .val dep (s + flen [⟨g1, "let"⟩, ⟨g2, n⟩, ⟨g3, "="⟩]) a zs → Pri .val dep (s + flen (⟨g1, "let"⟩ :: ⟨g2, n⟩ :: ⟨g3, "="⟩ :: (zs ++ [⟨g4, "in"⟩]))) b ws →
      Pri .val (dep + 1) s (.lt (s + g1.length) b.e n (s + flen [⟨g1, "let"⟩] + g2.length) a b) (⟨g1, "let"⟩ :: ⟨g2, n⟩ :: ⟨g3, "="⟩ :: (zs ++ ⟨g4, "in"⟩ :: ws))
  | ift {dep s : Nat} {g1 g2 g3 : Str} {a b c : Tr} {zs ws us : List Pc} : Pri .val dep (s + flen [⟨g1, "if"⟩]) a zs → Pri .val dep (s + flen (⟨g1, "if"⟩ :: (zs ++ [⟨g2, "then"⟩]))) b ws → Pri .val dep (s + flen (⟨g1, "if"⟩ :: (zs ++ ⟨g2, "then"⟩ :: (ws ++ [⟨g3, "else"⟩])))) c us →
      Pri .val (dep + 1) s (.ift (s + g1.length) c.e a b c) (⟨g1, "if"⟩ :: (zs ++ ⟨g2, "then"⟩ :: (ws ++ ⟨g3, "else"⟩ :: us)))
  | lp {dep s : Nat} {g1 g2 g3 g4 g5 n : Str} {a b c : Tr} {zs ws us : List Pc} : nameW n → Pri .val dep (s + flen [⟨g1, "loop"⟩, ⟨g2, n⟩, ⟨g3, "="⟩]) a zs → Pri .val dep (s + flen (⟨g1, "loop"⟩ :: ⟨g2, n⟩ :: ⟨g3, "="⟩ :: (zs ++ [⟨g4, "times"⟩]))) b ws →
      Pri .val dep (s + flen (⟨g1, "loop"⟩ :: ⟨g2, n⟩ :: ⟨g3, "="⟩ :: (zs ++ ⟨g4, "times"⟩ :: (ws ++ [⟨g5, "do"⟩])))) c us →
      Pri .val (dep + 1) s (.lp (s + g1.length) c.e n (s + flen [⟨g1, "loop"⟩] + g2.length) a b c) (⟨g1, "loop"⟩ :: ⟨g2, n⟩ :: ⟨g3, "="⟩ :: (zs ++ ⟨g4, "times"⟩ :: (ws ++ ⟨g5, "do"⟩ :: us)))
theorem flen_cons (x : Pc) (r : List Pc) : flen (x :: r) = x.g.length + x.z.length + flen r := rfl
theorem flen_nil : flen [] = 0 := rfl
/-- a printed tree ends where its pieces end -/
theorem pri_e {m : Pm} {dep s : Nat} {a : Tr} {zs : List Pc} (h : Pri m dep s a zs) : m ≠ .as → a.e = s + flen zs := by
  induction h with
  | num _ | tru _ | nam _ => intro _; simp only [flen_cons, flen_nil, Tr.e]; omega
  | call0 _ | call _ _ _ | fld _ _ _ | grp _ _ => intro _; rfl
  | one _ _ | more _ _ _ _ => intro z; exact absurd rfl z
  | mns _ _ ih | nt _ _ ih =>
    intro _
    have := ih (fun z => nomatch z)
    simp only [flen_cons, flen_nil, Tr.e] at *; omega
  | cmp _ _ _ _ _ _ ih | step _ _ _ _ _ ih =>
    intro _
    have := ih (fun z => nomatch z)
    simp only [flen_app, flen_cons, flen_nil, Tr.e] at *; omega
  | base _ ih | chn _ _ _ _ _ ih | lo _ ih => intro _; exact ih (fun z => nomatch z)
  | lt _ _ _ _ ih =>
    intro _
    have := ih (fun z => nomatch z)
    simp only [flen_app, flen_cons, flen_nil, Tr.e] at *; omega
  | ift _ _ _ _ _ ih =>
    intro _
    have := ih (fun z => nomatch z)
    simp only [flen_app, flen_cons, flen_nil, Tr.e] at *; omega
  | lp _ _ _ _ _ _ ih =>
    intro _
    have := ih (fun z => nomatch z)
    simp only [flen_app, flen_cons, flen_nil, Tr.e] at *; omega
theorem pri_ne {m : Pm} {dep s : Nat} {a : Tr} {zs : List Pc} (h : Pri m dep s a zs) : zs ≠ [] := by
  induction h <;> simp_all
/-! ### what the reader sees -/
def fxW (z : Str) : Str := if sortW (tl z) = "word" ∨ sortW (tl z) = "sign" then z else ""
section
variable {t : Str} {ks : List Tk} {p s d : Nat}
theorem seq_srt {x : Pc} {r : List Pc} (h : Seq t ks p s (x :: r)) : srt ks p = sortW (tl x.z) := srt_at h.1.1
theorem seq_plc {x : Pc} {r : List Pc} (h : Seq t ks p s (x :: r)) : plc ks p = (s + x.g.length, s + x.g.length + x.z.length) := plc_at h.1.1
theorem seq_cut {x : Pc} {r : List Pc} (h : Seq t ks p s (x :: r)) : cutN t (plc ks p).1 (plc ks p).2 = x.z := by rw [seq_plc h]; exact h.1.2
theorem seq_fx {x : Pc} {r : List Pc} (h : Seq t ks p s (x :: r)) : fx t ks p = fxW x.z := by
  unfold fx fxW
  rw [seq_srt h, seq_cut h]
theorem seq_lend : ∀ {zs : List Pc} {p s : Nat}, Seq t ks p s zs → zs ≠ [] → lend ks (p + zs.length) = s + flen zs
  | [], _, _, _, h => absurd rfl h
  | [x], p, s, h, _ => by
    unfold lend
    rw [show p + [x].length - 1 = p by simp, h.1.1]
    show s + x.g.length + x.z.length = s + (x.g.length + x.z.length + 0)
    omega
  | x :: y :: r, p, s, h, _ => by
    have := seq_lend (zs := y :: r) h.2 (by simp)
    rw [show p + (x :: y :: r).length = p + 1 + (y :: r).length by simp only [List.length_cons]; omega, this, flen_cons x]
    omega
theorem fxW_name {z : Str} (h : nameW z) : fxW z = "" := if_neg fun k => by
  unfold nameW at h
  rw [h] at k
  rcases k with k | k <;> exact absurd k (by decide +kernel)
theorem fxW_num {z : Str} (h : sortW (tl z) = "number") : fxW z = "" := if_neg fun k => by
  rw [h] at k
  rcases k with k | k <;> exact absurd k (by decide +kernel)
theorem take_ok {x : Str} (h : fx t ks p = x) : takeR t ks x p d = .ok () (p + 1) d := if_pos h
theorem mark_ok {x : Pc} {r : List Pc} (h : Seq t ks p s (x :: r)) (hn : nameW x.z) : markR t ks p d = .ok (x.z, s + x.g.length) (p + 1) d := by
  unfold markR
  rw [if_pos ((seq_srt h).trans hn), seq_cut h, seq_plc h]
theorem begin_ok {x : Pc} {r : List Pc} (h : Seq t ks p s (x :: r)) (hd : d < 30) : beginR ks p d = .ok (s + x.g.length) p (d + 1) := by
  unfold beginR
  rw [if_pos hd, seq_plc h]
end
/-- the level of a sign that joins -/
def opl (x : Str) : Option Nat :=
  if x = "or" then some 0 else if x = "and" then some 1 else if x = "==" ∨ x = "<" then some 2 else if x = "+" ∨ x = "-" then some 3 else if x = "*" ∨ x = "/" then some 4 else if x = "." ∨ x = "(" then some 9 else none
/-- behind a value of the level L may stand x -/
def Stop (L : Nat) (x : Str) : Prop := ∀ k, opl x = some k → k < L
theorem opk_opl {k : Nat} {x : Str} (h : opk k x) : opl x = some k := by
  match k, h with
  | 0, h => rw [show x = "or" from h]; decide +kernel
  | 1, h => rw [show x = "and" from h]; decide +kernel
  | 2, h => rcases h with h | h <;> rw [h] <;> decide +kernel
  | 3, h => rcases h with h | h <;> rw [h] <;> decide +kernel
  | 4, h => rcases h with h | h <;> rw [h] <;> decide +kernel
  | k + 5, h => exact h.elim
theorem opl_opk {k : Nat} {x : Str} (h : opl x = some k) (hk : k < 9) : opk k x := by
  unfold opl at h
  split at h
  · cases h; assumption
  split at h
  · cases h; assumption
  split at h
  · cases h; assumption
  split at h
  · cases h; assumption
  split at h
  · cases h; assumption
  split at h
  · cases h; omega
  · cases h
theorem Stop.mono {L L' : Nat} {x : Str} (h : Stop L x) (hl : L ≤ L') : Stop L' x := fun k e => Nat.lt_of_lt_of_le (h k e) hl
theorem stop_op {k : Nat} {x : Str} (h : opk k x) : Stop (k + 1) x := fun j e => by
  rw [opk_opl h] at e
  cases e; omega
theorem Stop.nop {L k : Nat} {x : Str} (h : Stop L x) (hl : L ≤ k) : ¬ opk k x := fun z => by
  have := h k (opk_opl z)
  omega
theorem Stop.dot {L : Nat} {x : Str} (h : Stop L x) (hl : L ≤ 9) : x ≠ "." := fun z => by
  have := h 9 (by rw [z]; decide +kernel)
  omega
theorem Stop.par {L : Nat} {x : Str} (h : Stop L x) (hl : L ≤ 9) : x ≠ "(" := fun z => by
  have := h 9 (by rw [z]; decide +kernel)
  omega
theorem stop_none {L : Nat} {x : Str} (h : opl x = none) : Stop L x := fun k e => by rw [h] at e; cases e
/-- how a value of the level L does not begin -/
structure Fst (L : Nat) (x : Str) : Prop where
  cl : x ≠ ")"
  w : x ≠ "let" ∧ x ≠ "if" ∧ x ≠ "loop"
  n : 3 ≤ L → x ≠ "not"
  m : 6 ≤ L → x ≠ "-"
theorem Fst.low {L L' : Nat} {x : Str} (h : Fst L x) (hl : L' ≤ L) : Fst L' x := ⟨h.cl, h.w, fun z => h.n (by omega), fun z => h.m (by omega)⟩
theorem fst_of {L : Nat} {x : Str} (h : [("" : Str), "True", "False", "("].contains x = true) : Fst L x := by
  have h : x ∈ [("" : Str), "True", "False", "("] := by simpa using h
  simp only [List.mem_cons, List.not_mem_nil, or_false] at h
  rcases h with h | h | h | h <;> rw [h] <;> exact ⟨by decide +kernel, ⟨by decide +kernel, by decide +kernel, by decide +kernel⟩, fun _ => by decide +kernel, fun _ => by decide +kernel⟩
/-! ### how much of fuel a tree takes -/
def Tr.spine : Tr → Nat
  | .bin _ _ _ a _ => a.spine + 1
  | _ => 0
mutual
def Tr.fu : Tr → Nat
  | .lt _ _ _ _ a b => max a.fu b.fu + 2
  | .ift _ _ a b c => max (max a.fu b.fu) c.fu + 2
  | .lp _ _ _ _ a b c => max (max a.fu b.fu) c.fu + 2
  | .bin _ _ _ a b => max (a.fu + 1) (b.fu + a.spine + 1)
  | .nt _ _ a => a.fu + 1
  | .mns _ _ a => a.fu + 1
  | .fld _ _ a _ => a.fu + 1
  | .num _ _ _ => 1
  | .tru _ _ _ => 1
  | .grp _ _ a => a.fu + 12
  | .nam _ _ _ => 1
  | .call _ _ _ as => Tr.fus as + as.length + 13
def Tr.fus : List Tr → Nat
  | [] => 0
  | a :: r => max a.fu (Tr.fus r)
end
theorem fus_app (b : Tr) : ∀ l : List Tr, Tr.fus (l ++ [b]) = max (Tr.fus l) b.fu
  | [] => by show max b.fu 0 = max 0 b.fu; omega
  | a :: r => by
    show max a.fu (Tr.fus (r ++ [b])) = max (max a.fu (Tr.fus r)) b.fu
    rw [fus_app b r]; omega
theorem fu_pos (a : Tr) : 1 ≤ a.fu := by
  cases a <;> simp only [Tr.fu] <;> omega
/-! ### the parser reads it -/
def PrOk (t : Str) (ks : List Tk) (N : Nat) (md : Md) (p d : Nat) (a : Tr) (q : Nat) : Prop := ∀ n, N ≤ n → pr t ks n md p d = .ok a q d
def mdL : Nat → Md
  | 0 => .either 0
  | 1 => .either 1
  | 2 => .either 2
  | 3 => .chain true
  | 4 => .chain false
  | 5 => .signed
  | _ => .reached
def off : Nat → Nat
  | 0 => 10
  | 1 => 9
  | 2 => 8
  | 3 => 5
  | 4 => 4
  | 5 => 3
  | _ => 2
section
variable {t : Str} {ks : List Tk} {p q d N : Nat} {a : Tr}
theorem PrOk.mono {N' : Nat} {md : Md} (h : PrOk t ks N md p d a q) (l : N ≤ N') : PrOk t ks N' md p d a q := fun n hn => h n (by omega)
theorem down5 (h : PrOk t ks N .reached p d a q) (h1 : fx t ks p ≠ "-") : PrOk t ks (N + 1) .signed p d a q := fun n hn => by
  obtain ⟨n, rfl⟩ : ∃ m, n = m + 1 := ⟨n - 1, by omega⟩
  show (if fx t ks p = "-" then _ else pr t ks n .reached p d) = _
  rw [if_neg h1, h n (by omega)]
theorem cl_stop {n : Nat} {b : Bool} (hn : 1 ≤ n) (h : sgn b (fx t ks q) = false) : pr t ks n (.cloop b a) q d = .ok a q d := by
  obtain ⟨n, rfl⟩ : ∃ m, n = m + 1 := ⟨n - 1, by omega⟩
  show (if sgn b (fx t ks q) = true then _ else _) = _
  rw [if_neg (by rw [h]; decide)]
theorem el_stop {n l : Nat} (hn : 1 ≤ n) (h : fx t ks q ≠ lvS l) : pr t ks n (.eloop l a) q d = .ok a q d := by
  obtain ⟨n, rfl⟩ : ∃ m, n = m + 1 := ⟨n - 1, by omega⟩
  show (if fx t ks q = lvS l then _ else _) = _
  rw [if_neg h]
theorem down4 (hN : 1 ≤ N) (h : PrOk t ks N .signed p d a q) (h1 : sgn false (fx t ks q) = false) : PrOk t ks (N + 1) (.chain false) p d a q := fun n hn => by
  obtain ⟨n, rfl⟩ : ∃ m, n = m + 1 := ⟨n - 1, by omega⟩
  show ((pr t ks n .signed p d).bind fun x p d => pr t ks n (.cloop false x) p d) = _
  rw [h n (by omega)]
  exact cl_stop (by omega) h1
theorem down3 (hN : 1 ≤ N) (h : PrOk t ks N (.chain false) p d a q) (h1 : sgn true (fx t ks q) = false) : PrOk t ks (N + 1) (.chain true) p d a q := fun n hn => by
  obtain ⟨n, rfl⟩ : ∃ m, n = m + 1 := ⟨n - 1, by omega⟩
  show ((pr t ks n (.chain false) p d).bind fun x p d => pr t ks n (.cloop true x) p d) = _
  rw [h n (by omega)]
  exact cl_stop (by omega) h1
theorem neg2 (h : PrOk t ks N .compared p d a q) (h2 : fx t ks p ≠ "not") : PrOk t ks (N + 2) (.either 2) p d a q := fun n hn => by
  obtain ⟨n, rfl⟩ : ∃ m, n = m + 2 := ⟨n - 2, by omega⟩
  show (if 2 = 2 then pr t ks (n + 1) .negated p d else _) = _
  rw [if_pos rfl]
  show (if fx t ks p = "not" then _ else pr t ks n .compared p d) = _
  rw [if_neg h2, h n (by omega)]
theorem down2 (h : PrOk t ks N (.chain true) p d a q) (h1 : ¬ opk 2 (fx t ks q)) (h2 : fx t ks p ≠ "not") : PrOk t ks (N + 3) (.either 2) p d a q := by
  refine neg2 (N := N + 1) (fun n hn => ?_) h2
  obtain ⟨n, rfl⟩ : ∃ m, n = m + 1 := ⟨n - 1, by omega⟩
  show ((pr t ks n (.chain true) p d).bind fun x p d => if fx t ks p = "==" ∨ fx t ks p = "<" then _ else _) = _
  rw [h n (by omega)]
  show (if fx t ks q = "==" ∨ fx t ks q = "<" then _ else _) = _
  rw [if_neg (show ¬ (fx t ks q = "==" ∨ fx t ks q = "<") from h1)]
theorem down1 {l : Nat} (hN : 1 ≤ N) (hl : l ≠ 2) (h : PrOk t ks N (.either (l + 1)) p d a q) (h1 : fx t ks q ≠ lvS l) : PrOk t ks (N + 1) (.either l) p d a q := fun n hn => by
  obtain ⟨n, rfl⟩ : ∃ m, n = m + 1 := ⟨n - 1, by omega⟩
  show (if l = 2 then _ else (pr t ks n (.either (l + 1)) p d).bind fun x p d => pr t ks n (.eloop l x) p d) = _
  rw [if_neg hl, h n (by omega)]
  exact el_stop (by omega) h1
theorem sgn_f4 {x : Str} (h : ¬ opk 4 x) : sgn false x = false := by
  cases e : sgn false x with
  | false => rfl
  | true =>
    refine absurd ?_ h
    unfold sgn at e
    rw [if_neg (by decide), Bool.or_eq_true] at e
    exact e.imp of_decide_eq_true of_decide_eq_true
theorem sgn_f3 {x : Str} (h : ¬ opk 3 x) : sgn true x = false := by
  cases e : sgn true x with
  | false => rfl
  | true =>
    refine absurd ?_ h
    unfold sgn at e
    rw [if_pos rfl, Bool.or_eq_true] at e
    exact e.imp of_decide_eq_true of_decide_eq_true
theorem down_one {L f : Nat} (hL : L ≤ 5) (h : PrOk t ks (f + off (L + 1)) (mdL (L + 1)) p d a q) (hs : Stop L (fx t ks q)) (hf : Fst (L + 1) (fx t ks p)) : PrOk t ks (f + off L) (mdL L) p d a q := by
  match L, hL with
  | 0, _ => exact down1 (N := f + 9) (by omega) (by decide) h (hs.nop (k := 0) (Nat.le_refl _))
  | 1, _ => exact down1 (N := f + 8) (by omega) (by decide) h (hs.nop (k := 1) (Nat.le_refl _))
  | 2, _ => exact down2 (N := f + 5) h (hs.nop (Nat.le_refl _)) (hf.n (by omega))
  | 3, _ => exact down3 (N := f + 4) (by omega) h (sgn_f3 (hs.nop (Nat.le_refl _)))
  | 4, _ => exact down4 (N := f + 3) (by omega) h (sgn_f4 (hs.nop (Nat.le_refl _)))
  | 5, _ => exact down5 (N := f + 2) h (hf.m (by omega))
theorem down_all {f : Nat} : ∀ (j : Nat) {L : Nat}, L + j ≤ 6 → PrOk t ks (f + off (L + j)) (mdL (L + j)) p d a q → Stop L (fx t ks q) → Fst (L + j) (fx t ks p) → PrOk t ks (f + off L) (mdL L) p d a q
  | 0, L, _, h, _, _ => h
  | j + 1, L, hl, h, hs, hf => by
    have e : L + (j + 1) = (L + 1) + j := by omega
    rw [e] at h hf
    exact down_one (by omega) (down_all j (by omega) h (hs.mono (by omega)) hf) hs (hf.low (by omega))
theorem down {f : Nat} (L L' : Nat) (h1 : L ≤ L') (h2 : L' ≤ 6) (h : PrOk t ks (f + off L') (mdL L') p d a q) (hs : Stop L (fx t ks q)) (hf : Fst L' (fx t ks p)) : PrOk t ks (f + off L) (mdL L) p d a q := by
  have e : L' = L + (L' - L) := by omega
  rw [e] at h hf
  exact down_all _ (by omega) h hs hf
theorem val_lo (h : PrOk t ks N (.either 0) p (d + 1) a q) (hf : Fst 0 (fx t ks p)) (hd : d < 30) : PrOk t ks (N + 1) .value p d a q := fun n hn => by
  obtain ⟨n, rfl⟩ : ∃ m, n = m + 1 := ⟨n - 1, by omega⟩
  show (beginR ks p d).bind _ = _
  unfold beginR
  rw [if_pos hd]
  show (if fx t ks p = "let" then _ else if fx t ks p = "if" then _ else if fx t ks p = "loop" then _ else pr t ks n (.either 0) p (d + 1)).bind _ = _
  rw [if_neg hf.w.1, if_neg hf.w.2.1, if_neg hf.w.2.2, h n (by omega)]
  rfl
end
end DL

set_option Elab.async false
set_option linter.all false
set_option maxRecDepth 100000
namespace DL
open PySem PySem.Spec PyProof.Rows L2 TL
def lpM : Nat → Tr → Md
  | 3, a => .cloop true a
  | 4, a => .cloop false a
  | k, a => .eloop k a
def RL (t : Str) (ks : List Tk) (p d : Nat) (a : Tr) (q : Nat) : Prop := ∃ M c, 1 ≤ M ∧ M + c ≤ a.fu + 1 ∧ ∀ n, M ≤ n → pr t ks (n + c) .reached p d = pr t ks n (.rloop a) q d
/-- what is shown of each form -/
def Cl (t : Str) (ks : List Tk) (dep p q : Nat) (a : Tr) : Pm → Prop
  | .val => fx t ks p ≠ ")" ∧ ∀ d, d + dep < 30 → Stop 0 (fx t ks q) → PrOk t ks (a.fu + 11) .value p d a q
  | .lv L => L ≤ 6 → Fst L (fx t ks p) ∧ (∀ d, d + dep ≤ 30 → Stop L (fx t ks q) → PrOk t ks (a.fu + off L) (mdL L) p d a q) ∧ (L = 6 → ∀ d, d + dep ≤ 30 → fx t ks q ≠ "(" → RL t ks p d a q)
  | .ch k => k ≤ 4 → k ≠ 2 → Fst (k + 1) (fx t ks p) ∧ ∀ d, d + dep ≤ 30 → Stop (k + 1) (fx t ks q) → ∃ M c, 1 ≤ M ∧ c ≤ a.spine + 1 ∧ M + c ≤ a.fu + off (k + 1) + 1 ∧ ∀ n, M ≤ n → pr t ks (n + c) (mdL k) p d = pr t ks n (lpM k a) q d
  | .as => fx t ks p ≠ ")" ∧ ∀ d, d + dep < 30 → Stop 0 (fx t ks q) → ∃ M c, 1 ≤ M ∧ c + 1 = a.parts.length ∧ M + c + 2 ≤ Tr.fus a.parts + a.parts.length + 13 ∧ ∀ n, M ≤ n → ((pr t ks (n + c) .value p d).bind fun x p d => pr t ks (n + c) (.aloop [x]) p d) = pr t ks n (.aloop a.parts) q d
section
variable {t : Str} {ks : List Tk} {p q d dep s : Nat} {a b : Tr}
theorem rl_sim (h : ∀ n, a.fu ≤ n → pr t ks n .simple p d = .ok a q d) : RL t ks p d a q := by
  refine ⟨a.fu, 1, fu_pos a, Nat.le_refl _, fun n hn => ?_⟩
  show ((pr t ks n .simple p d).bind fun x p d => pr t ks n (.rloop x) p d) = _
  rw [h n hn]
  rfl
theorem cl_rl {L : Nat} (hf : Fst 6 (fx t ks p)) (h : ∀ d, d + dep ≤ 30 → fx t ks q ≠ "(" → RL t ks p d a q) : Cl t ks dep p q a (.lv L) := by
  intro hL
  refine ⟨hf.low hL, fun d hd hs => ?_, fun _ d hd hq => h d hd hq⟩
  obtain ⟨M, c, hM, hc, k⟩ := h d hd (hs.par (by omega))
  have h6 : PrOk t ks (a.fu + off 6) .reached p d a q := fun n hn => by
    have hn : a.fu + 2 ≤ n := hn
    obtain ⟨m, rfl⟩ : ∃ m, n = (m + 1) + c := ⟨n - c - 1, by omega⟩
    rw [k _ (by omega)]
    show (if fx t ks q = "." then _ else _) = _
    rw [if_neg (hs.dot (by omega))]
  exact down L 6 hL (Nat.le_refl _) h6 hs hf
theorem cl_down {L L' : Nat} (hl : L ≤ L') (hL' : L' ≤ 5) (hf : Fst L' (fx t ks p)) (h : ∀ d, d + dep ≤ 30 → Stop L' (fx t ks q) → PrOk t ks (a.fu + off L') (mdL L') p d a q) : Cl t ks dep p q a (.lv L) := fun hL =>
  ⟨hf.low hl, fun d hd hs => down L L' hl (by omega) (h d hd (hs.mono hl)) hs hf, fun e => by omega⟩
theorem fx_ne_num {x : Str} (h : sortW (tl x) = "number") : fxW x = "" := fxW_num h
theorem cl_num {L : Nat} {g z : Str} (hz : sortW (tl z) = "number") (h : Seq t ks p s [⟨g, z⟩]) : Cl t ks dep p (p + 1) (.num (s + g.length) (s + g.length + z.length) (numV (tl z))) (.lv L) := by
  have e := seq_fx h
  rw [show fxW (Pc.mk g z).z = "" from fxW_num hz] at e
  refine cl_rl (by rw [e]; exact fst_of (by decide +kernel)) fun d _ _ => rl_sim fun n hn => ?_
  have hn : 1 ≤ n := hn
  obtain ⟨n, rfl⟩ : ∃ m, n = m + 1 := ⟨n - 1, by omega⟩
  have h1 := seq_srt h
  have h2 := seq_cut h
  have h3 := seq_plc h
  show (if srt ks p = "number" then Rs.ok (Tr.num (plc ks p).1 (plc ks p).2 (numV (tl (cutN t (plc ks p).1 (plc ks p).2)))) (p + 1) d else _) = _
  rw [if_pos (h1.trans hz), h2, h3]
theorem cl_tru {L : Nat} {g z : Str} (hz : z = "True" ∨ z = "False") (h : Seq t ks p s [⟨g, z⟩]) : Cl t ks dep p (p + 1) (.tru (s + g.length) (s + g.length + z.length) (decide (z = "True"))) (.lv L) := by
  have e := seq_fx h
  have hw : fxW z = z ∧ sortW (tl z) = "word" := by rcases hz with rfl | rfl <;> exact ⟨by decide +kernel, by decide +kernel⟩
  rw [show fxW (Pc.mk g z).z = z from hw.1] at e
  refine cl_rl (by rw [e]; rcases hz with rfl | rfl <;> exact fst_of (by decide +kernel)) fun d _ _ => rl_sim fun n hn => ?_
  have hn : 1 ≤ n := hn
  obtain ⟨n, rfl⟩ : ∃ m, n = m + 1 := ⟨n - 1, by omega⟩
  have h1 := seq_srt h
  have h2 := seq_cut h
  have h3 := seq_plc h
  show (if srt ks p = "number" then _ else if fx t ks p = "True" ∨ fx t ks p = "False" then Rs.ok (Tr.tru (plc ks p).1 (plc ks p).2 (decide (cutN t (plc ks p).1 (plc ks p).2 = "True"))) (p + 1) d else _) = _
  rw [if_neg (by rw [h1, show sortW (tl (Pc.mk g z).z) = "word" from hw.2]; decide +kernel), if_pos (by rw [e]; exact hz), h2, h3]
/-- a name: no number, no truth, no bracket -/
theorem sim_name {g z : Str} {r : List Pc} {n : Nat} (hz : nameW z) (h : Seq t ks p s (⟨g, z⟩ :: r)) : pr t ks (n + 1) .simple p d = if fx t ks (p + 1) = "(" then (pr t ks n .args (p + 1) d).bind fun x p' d => Rs.ok (Tr.call (s + g.length) (lend ks p') z x.parts) p' d else Rs.ok (Tr.nam (s + g.length) (s + g.length + z.length) z) (p + 1) d := by
  have e := seq_fx h
  rw [show fxW (Pc.mk g z).z = "" from fxW_name hz] at e
  have h1 := seq_srt h
  have h3 := seq_plc h
  have hm := mark_ok (d := d) h hz
  show (if srt ks p = "number" then _ else if fx t ks p = "True" ∨ fx t ks p = "False" then _ else if fx t ks p = "(" then _ else (markR t ks p d).bind _) = _
  rw [if_neg (by rw [h1, show sortW (tl (Pc.mk g z).z) = "name" from hz]; decide +kernel), if_neg (by rw [e]; decide +kernel), if_neg (by rw [e]; decide +kernel), hm, h3]
  rfl
theorem fst_name {g z : Str} {r : List Pc} (hz : nameW z) (h : Seq t ks p s (⟨g, z⟩ :: r)) : Fst 6 (fx t ks p) := by
  have e := seq_fx h
  rw [show fxW (Pc.mk g z).z = "" from fxW_name hz] at e
  rw [e]; exact fst_of (by decide +kernel)
theorem cl_nam {L : Nat} {g z : Str} (hz : nameW z) (h : Seq t ks p s [⟨g, z⟩]) : Cl t ks dep p (p + 1) (.nam (s + g.length) (s + g.length + z.length) z) (.lv L) := by
  refine cl_rl (fst_name hz h) fun d _ hq => rl_sim fun n hn => ?_
  have hn : 1 ≤ n := hn
  obtain ⟨n, rfl⟩ : ∃ m, n = m + 1 := ⟨n - 1, by omega⟩
  rw [sim_name hz h, if_neg hq]
theorem cl_call0 {L : Nat} {g z g2 g3 : Str} (hz : nameW z) (h : Seq t ks p s [⟨g, z⟩, ⟨g2, "("⟩, ⟨g3, ")"⟩]) : Cl t ks dep p (p + 3) (.call (s + g.length) (s + flen [⟨g, z⟩, ⟨g2, "("⟩, ⟨g3, ")"⟩]) z []) (.lv L) := by
  refine cl_rl (fst_name hz h) fun d _ hq => rl_sim fun n hn => ?_
  have hn : 13 ≤ n := hn
  obtain ⟨n, rfl⟩ : ∃ m, n = m + 2 := ⟨n - 2, by omega⟩
  have e1 : fx t ks (p + 1) = "(" := (seq_fx h.2).trans (show fxW "(" = "(" by decide +kernel)
  have e2 : fx t ks (p + 2) = ")" := (seq_fx h.2.2).trans (show fxW ")" = ")" by decide +kernel)
  have e3 : lend ks (p + 3) = s + flen [⟨g, z⟩, ⟨g2, "("⟩, ⟨g3, ")"⟩] := seq_lend h (by simp)
  rw [sim_name (n := n + 1) hz h, if_pos e1]
  have e4 : pr t ks (n + 1) .args (p + 1) d = Rs.ok (Tr.call 0 0 "" []) (p + 3) d := by
    show (takeR t ks "(" (p + 1) d).bind _ = _
    rw [take_ok e1]
    show (if fx t ks (p + 2) = ")" then _ else _) = _
    rw [if_pos e2]
  rw [e4]
  show Rs.ok _ _ _ = _
  rw [e3]
  rfl
theorem cl_call {L : Nat} {g z g2 g3 : Str} {c : Tr} {zs : List Pc} (hz : nameW z) (h : Seq t ks p s (⟨g, z⟩ :: ⟨g2, "("⟩ :: (zs ++ [⟨g3, ")"⟩]))) (ih : Seq t ks (p + 2) (s + flen [⟨g, z⟩, ⟨g2, "("⟩]) zs → Cl t ks dep (p + 2) (p + 2 + zs.length) c .as) :
    Cl t ks (dep + 1) p (p + (⟨g, z⟩ :: ⟨g2, "("⟩ :: (zs ++ [⟨g3, ")"⟩])).length) (.call (s + g.length) (s + flen (⟨g, z⟩ :: ⟨g2, "("⟩ :: (zs ++ [⟨g3, ")"⟩]))) z c.parts) (.lv L) := by
  have el : p + (⟨g, z⟩ :: ⟨g2, "("⟩ :: (zs ++ [⟨g3, ")"⟩])).length = p + 2 + zs.length + 1 := by simp only [List.length_cons, List.length_append, List.length_nil]; omega
  refine cl_rl (fst_name hz h) fun d hd hq => ?_
  obtain ⟨k1, k2⟩ := seq_app h.2.2
  have es : s + flen [⟨g, z⟩, ⟨g2, "("⟩] = s + (Pc.mk g z).g.length + (Pc.mk g z).z.length + (Pc.mk g2 "(").g.length + (Pc.mk g2 "(").z.length := by simp only [flen_cons, flen_nil]; omega
  obtain ⟨f1, f2⟩ := ih (by rw [es]; exact k1)
  have e1 : fx t ks (p + 1) = "(" := (seq_fx h.2).trans (show fxW "(" = "(" by decide +kernel)
  have e2 : fx t ks (p + 2 + zs.length) = ")" := (seq_fx k2).trans (show fxW ")" = ")" by decide +kernel)
  obtain ⟨M, N, hM, hN, hMN, f3⟩ := f2 d (by omega) (by rw [e2]; exact stop_none (by decide +kernel))
  have e3 := seq_lend h (by simp)
  rw [el] at e3 ⊢
  refine rl_sim fun n hn => ?_
  have hn : Tr.fus c.parts + c.parts.length + 13 ≤ n := hn
  obtain ⟨m, rfl⟩ : ∃ m, n = ((m + 1) + N) + 1 + 1 := ⟨n - N - 3, by omega⟩
  rw [sim_name (n := (m + 1) + N + 1) hz h, if_pos e1]
  have e4 : pr t ks ((m + 1) + N + 1) .args (p + 1) d = Rs.ok (Tr.call 0 0 "" c.parts) (p + 2 + zs.length + 1) d := by
    show (takeR t ks "(" (p + 1) d).bind _ = _
    rw [take_ok e1]
    show (if fx t ks (p + 2) = ")" then _ else (pr t ks ((m + 1) + N) .value (p + 2) d).bind fun x p d => pr t ks ((m + 1) + N) (.aloop [x]) p d) = _
    rw [if_neg f1, f3 _ (by omega)]
    show (if fx t ks (p + 2 + zs.length) = "," then _ else (takeR t ks ")" (p + 2 + zs.length) d).bind fun _ p d => Rs.ok (Tr.call 0 0 "" c.parts) p d) = _
    rw [if_neg (by rw [e2]; decide +kernel), take_ok e2]
    rfl
  rw [e4]
  show Rs.ok _ _ _ = _
  rw [e3]
  rfl
theorem cl_grp {L : Nat} {g g2 : Str} {zs : List Pc} (h : Seq t ks p s (⟨g, "("⟩ :: (zs ++ [⟨g2, ")"⟩]))) (ih : Seq t ks (p + 1) (s + flen [⟨g, "("⟩]) zs → Cl t ks dep (p + 1) (p + 1 + zs.length) a .val) :
    Cl t ks (dep + 1) p (p + (⟨g, "("⟩ :: (zs ++ [⟨g2, ")"⟩])).length) (.grp (s + g.length) (s + flen (⟨g, "("⟩ :: (zs ++ [⟨g2, ")"⟩]))) a) (.lv L) := by
  have el : p + (⟨g, "("⟩ :: (zs ++ [⟨g2, ")"⟩])).length = p + 1 + zs.length + 1 := by simp only [List.length_cons, List.length_append, List.length_nil]; omega
  have e0 : fx t ks p = "(" := (seq_fx h).trans (show fxW "(" = "(" by decide +kernel)
  obtain ⟨k1, k2⟩ := seq_app h.2
  have es : s + flen [⟨g, "("⟩] = s + (Pc.mk g "(").g.length + (Pc.mk g "(").z.length := by simp only [flen_cons, flen_nil]; omega
  obtain ⟨f1, f2⟩ := ih (by rw [es]; exact k1)
  have e2 : fx t ks (p + 1 + zs.length) = ")" := (seq_fx k2).trans (show fxW ")" = ")" by decide +kernel)
  have h1 := seq_srt h
  have h3 := seq_plc h
  have e3 := seq_lend h (by simp)
  rw [el] at e3 ⊢
  refine cl_rl (by rw [e0]; exact fst_of (by decide +kernel)) fun d hd hq => ?_
  have f3 := f2 d (by omega) (by rw [e2]; exact stop_none (by decide +kernel))
  refine rl_sim fun n hn => ?_
  have hn : a.fu + 12 ≤ n := hn
  obtain ⟨n, rfl⟩ : ∃ m, n = m + 1 := ⟨n - 1, by omega⟩
  show (if srt ks p = "number" then _ else if fx t ks p = "True" ∨ fx t ks p = "False" then _ else if fx t ks p = "(" then (pr t ks n .value (p + 1) d).bind fun x p' d => (takeR t ks ")" p' d).bind fun _ p' d => Rs.ok (Tr.grp (plc ks p).1 (lend ks p') x) p' d else _) = _
  rw [if_neg (by rw [h1]; show ¬ sortW (tl "(") = "number"; decide +kernel), if_neg (by rw [e0]; decide +kernel), if_pos e0, f3 n (by omega)]
  show (takeR t ks ")" (p + 1 + zs.length) d).bind _ = _
  rw [take_ok e2]
  show Rs.ok _ _ _ = _
  rw [e3, h3]
theorem cl_fld {L : Nat} {g1 g2 n : Str} {zs : List Pc} (hn : nameW n) (h : Seq t ks p s (zs ++ [Pc.mk g1 ".", Pc.mk g2 n])) (ih : Seq t ks p s zs → Cl t ks dep p (p + zs.length) a (.lv 6)) :
    Cl t ks dep p (p + (zs ++ [Pc.mk g1 ".", Pc.mk g2 n]).length) (.fld a.s (s + flen (zs ++ [Pc.mk g1 ".", Pc.mk g2 n])) a n) (.lv L) := by
  obtain ⟨k1, k2⟩ := seq_app h
  obtain ⟨f1, _, f3⟩ := ih k1 (Nat.le_refl _)
  have el : p + (zs ++ [Pc.mk g1 ".", Pc.mk g2 n]).length = p + zs.length + 2 := by simp only [List.length_cons, List.length_append, List.length_nil]; omega
  have e1 : fx t ks (p + zs.length) = "." := (seq_fx k2).trans (show fxW "." = "." by decide +kernel)
  have e3 := seq_lend h (by simp)
  rw [el] at e3 ⊢
  refine cl_rl f1 fun d hd hq => ?_
  obtain ⟨M, c, hM, hc, k⟩ := f3 rfl d hd (by rw [e1]; decide +kernel)
  refine ⟨M, c + 1, hM, by show M + (c + 1) ≤ a.fu + 1 + 1; omega, fun m hm => ?_⟩
  rw [show m + (c + 1) = (m + 1) + c by omega, k _ (by omega)]
  show (if fx t ks (p + zs.length) = "." then (markR t ks (p + zs.length + 1) d).bind fun mk p d => pr t ks m (.rloop (Tr.fld a.s (lend ks p) a mk.1)) p d else _) = _
  rw [if_pos e1, mark_ok k2.2 hn]
  show pr t ks m (.rloop (Tr.fld a.s (lend ks (p + zs.length + 2)) a n)) (p + zs.length + 2) d = _
  rw [e3]
theorem fst_of5 {x : Str} (h : x = "-") : Fst 5 x := by rw [h]; exact ⟨by decide +kernel, ⟨by decide +kernel, by decide +kernel, by decide +kernel⟩, fun _ => by decide +kernel, fun z => by omega⟩
theorem fst_of2 {x : Str} (h : x = "not") : Fst 2 x := by rw [h]; exact ⟨by decide +kernel, ⟨by decide +kernel, by decide +kernel, by decide +kernel⟩, fun z => by omega, fun z => by omega⟩
theorem cl_mns {L : Nat} {g : Str} {zs : List Pc} (hL : L ≤ 5) (h : Seq t ks p s (⟨g, "-"⟩ :: zs)) (ih : Seq t ks (p + 1) (s + flen [⟨g, "-"⟩]) zs → Cl t ks dep (p + 1) (p + 1 + zs.length) a (.lv 5)) :
    Cl t ks (dep + 1) p (p + (⟨g, "-"⟩ :: zs).length) (.mns (s + g.length) a.e a) (.lv L) := by
  have el : p + (⟨g, "-"⟩ :: zs).length = p + 1 + zs.length := by simp only [List.length_cons]; omega
  have e0 : fx t ks p = "-" := (seq_fx h).trans (show fxW "-" = "-" by decide +kernel)
  have es : s + flen [⟨g, "-"⟩] = s + (Pc.mk g "-").g.length + (Pc.mk g "-").z.length := by simp only [flen_cons, flen_nil]; omega
  obtain ⟨_, f2, _⟩ := ih (by rw [es]; exact h.2) (by omega)
  rw [el]
  refine cl_down hL (Nat.le_refl _) (fst_of5 e0) fun d hd hs => ?_
  have f3 : ∀ n, a.fu + 3 ≤ n → pr t ks n .signed (p + 1) (d + 1) = .ok a (p + 1 + zs.length) (d + 1) := f2 (d + 1) (by omega) hs
  intro n hn
  have hn : a.fu + 1 + 3 ≤ n := hn
  obtain ⟨n, rfl⟩ : ∃ m, n = m + 1 := ⟨n - 1, by omega⟩
  show (if fx t ks p = "-" then (beginR ks p d).bind fun st p d => (takeR t ks "-" p d).bind fun _ p d => (pr t ks n .signed p d).bind fun x p d => Rs.ok (Tr.mns st x.e x) p (d - 1) else _) = _
  rw [if_pos e0, begin_ok h (by omega)]
  show (takeR t ks "-" p (d + 1)).bind _ = _
  rw [take_ok e0]
  show (pr t ks n .signed (p + 1) (d + 1)).bind _ = _
  rw [f3 n (by omega)]
  rfl
theorem cl_nt {L : Nat} {g : Str} {zs : List Pc} (hL : L ≤ 2) (h : Seq t ks p s (⟨g, "not"⟩ :: zs)) (ih : Seq t ks (p + 1) (s + flen [⟨g, "not"⟩]) zs → Cl t ks dep (p + 1) (p + 1 + zs.length) a (.lv 2)) :
    Cl t ks (dep + 1) p (p + (⟨g, "not"⟩ :: zs).length) (.nt (s + g.length) a.e a) (.lv L) := by
  have el : p + (⟨g, "not"⟩ :: zs).length = p + 1 + zs.length := by simp only [List.length_cons]; omega
  have e0 : fx t ks p = "not" := (seq_fx h).trans (show fxW "not" = "not" by decide +kernel)
  have es : s + flen [⟨g, "not"⟩] = s + (Pc.mk g "not").g.length + (Pc.mk g "not").z.length := by simp only [flen_cons, flen_nil]; omega
  obtain ⟨_, f2, _⟩ := ih (by rw [es]; exact h.2) (by omega)
  rw [el]
  refine cl_down hL (by omega) (fst_of2 e0) fun d hd hs => ?_
  have f3 : ∀ n, a.fu + 8 ≤ n → pr t ks n (.either 2) (p + 1) (d + 1) = .ok a (p + 1 + zs.length) (d + 1) := f2 (d + 1) (by omega) hs
  have f4 : ∀ n, a.fu + 7 ≤ n → pr t ks n .negated (p + 1) (d + 1) = .ok a (p + 1 + zs.length) (d + 1) := fun n hn => f3 (n + 1) (by omega)
  intro n hn
  have hn : a.fu + 1 + 8 ≤ n := hn
  obtain ⟨n, rfl⟩ : ∃ m, n = m + 2 := ⟨n - 2, by omega⟩
  show (if 2 = 2 then pr t ks (n + 1) .negated p d else _) = _
  rw [if_pos rfl]
  show (if fx t ks p = "not" then (beginR ks p d).bind fun st p d => (takeR t ks "not" p d).bind fun _ p d => (pr t ks n .negated p d).bind fun x p d => Rs.ok (Tr.nt st x.e x) p (d - 1) else _) = _
  rw [if_pos e0, begin_ok h (by omega)]
  show (takeR t ks "not" p (d + 1)).bind _ = _
  rw [take_ok e0]
  show (pr t ks n .negated (p + 1) (d + 1)).bind _ = _
  rw [f4 n (by omega)]
  rfl
theorem fxW_op {k : Nat} {x : Str} (h : opk k x) : fxW x = x := by
  match k, h with
  | 0, h => rw [show x = "or" from h]; decide +kernel
  | 1, h => rw [show x = "and" from h]; decide +kernel
  | 2, h => rcases h with h | h <;> rw [h] <;> decide +kernel
  | 3, h => rcases h with h | h <;> rw [h] <;> decide +kernel
  | 4, h => rcases h with h | h <;> rw [h] <;> decide +kernel
  | k + 5, h => exact h.elim
theorem cl_cmp {L dep' : Nat} {g x : Str} {zs ws : List Pc} (hL : L ≤ 2) (hdd : dep ≤ dep') (hx : opk 2 x) (h : Seq t ks p s (zs ++ ⟨g, x⟩ :: ws)) (ih1 : Seq t ks p s zs → Cl t ks dep p (p + zs.length) a (.lv 3))
    (ih2 : Seq t ks (p + zs.length + 1) (s + flen (zs ++ [⟨g, x⟩])) ws → Cl t ks dep (p + zs.length + 1) (p + zs.length + 1 + ws.length) b (.lv 3)) : Cl t ks dep' p (p + (zs ++ ⟨g, x⟩ :: ws).length) (.bin a.s b.e x a b) (.lv L) := by
  obtain ⟨k1, k2⟩ := seq_app h
  have el : p + (zs ++ ⟨g, x⟩ :: ws).length = p + zs.length + 1 + ws.length := by simp only [List.length_cons, List.length_append]; omega
  have es : s + flen (zs ++ [⟨g, x⟩]) = s + flen zs + (Pc.mk g x).g.length + (Pc.mk g x).z.length := by simp only [flen_app, flen_cons, flen_nil]; omega
  have e1 : fx t ks (p + zs.length) = x := (seq_fx k2).trans (fxW_op hx)
  obtain ⟨f1, f2, _⟩ := ih1 k1 (by omega)
  obtain ⟨_, f3, _⟩ := ih2 (by rw [es]; exact k2.2) (by omega)
  rw [el]
  refine cl_down hL (by omega) (f1.low (by omega)) fun d hd hs => ?_
  have g1 : ∀ n, a.fu + 5 ≤ n → pr t ks n (.chain true) p d = .ok a (p + zs.length) d := f2 d (by omega) (by rw [e1]; exact stop_op hx)
  have g2 : ∀ n, b.fu + 5 ≤ n → pr t ks n (.chain true) (p + zs.length + 1) d = .ok b (p + zs.length + 1 + ws.length) d := f3 d (by omega) (hs.mono (by omega))
  refine neg2 (N := max (a.fu + 1) (b.fu + a.spine + 1) + 6) (fun n hn => ?_) (f1.n (by omega))
  obtain ⟨n, rfl⟩ : ∃ m, n = m + 1 := ⟨n - 1, by omega⟩
  show ((pr t ks n (.chain true) p d).bind fun x p d => if fx t ks p = "==" ∨ fx t ks p = "<" then (pr t ks n (.chain true) (p + 1) d).bind fun y p' d => Rs.ok (Tr.bin x.s y.e (fx t ks p) x y) p' d else .ok x p d) = _
  rw [g1 n (by omega)]
  show (if fx t ks (p + zs.length) = "==" ∨ fx t ks (p + zs.length) = "<" then (pr t ks n (.chain true) (p + zs.length + 1) d).bind fun y p' d => Rs.ok (Tr.bin a.s y.e (fx t ks (p + zs.length)) a y) p' d else _) = _
  rw [e1, if_pos (show x = "==" ∨ x = "<" from hx), g2 n (by omega)]
  rfl
theorem mdL_step {k : Nat} (hk : k ≤ 4) (h2 : k ≠ 2) (n : Nat) (h : pr t ks n (mdL (k + 1)) p d = .ok a q d) : pr t ks (n + 1) (mdL k) p d = pr t ks n (lpM k a) q d := by
  match k, hk, h2 with
  | 0, _, _ =>
    have h : pr t ks n (.either 1) p d = .ok a q d := h
    show (if 0 = 2 then _ else (pr t ks n (.either 1) p d).bind fun x p d => pr t ks n (.eloop 0 x) p d) = _
    rw [if_neg (by decide), h]; rfl
  | 1, _, _ =>
    have h : pr t ks n (.either 2) p d = .ok a q d := h
    show (if 1 = 2 then _ else (pr t ks n (.either 2) p d).bind fun x p d => pr t ks n (.eloop 1 x) p d) = _
    rw [if_neg (by decide), h]; rfl
  | 2, _, h2 => exact absurd rfl h2
  | 3, _, _ =>
    have h : pr t ks n (.chain false) p d = .ok a q d := h
    show ((pr t ks n (.chain false) p d).bind fun x p d => pr t ks n (.cloop true x) p d) = _
    rw [h]; rfl
  | 4, _, _ =>
    have h : pr t ks n .signed p d = .ok a q d := h
    show ((pr t ks n .signed p d).bind fun x p d => pr t ks n (.cloop false x) p d) = _
    rw [h]; rfl
theorem lpM_step {k q' : Nat} {x : Str} (hk : k ≤ 4) (h2 : k ≠ 2) (hx : opk k x) (hq : fx t ks q = x) (n : Nat) (h : pr t ks n (mdL (k + 1)) (q + 1) d = .ok b q' d) : pr t ks (n + 1) (lpM k a) q d = pr t ks n (lpM k (.bin a.s b.e x a b)) q' d := by
  match k, hk, h2 with
  | 0, _, _ =>
    have h : pr t ks n (.either 1) (q + 1) d = .ok b q' d := h
    show (if fx t ks q = "or" then (pr t ks n (.either 1) (q + 1) d).bind fun y p' d => pr t ks n (.eloop 0 (Tr.bin a.s y.e (fx t ks q) a y)) p' d else _) = _
    rw [if_pos (hq.trans hx), h, hq]; rfl
  | 1, _, _ =>
    have h : pr t ks n (.either 2) (q + 1) d = .ok b q' d := h
    show (if fx t ks q = "and" then (pr t ks n (.either 2) (q + 1) d).bind fun y p' d => pr t ks n (.eloop 1 (Tr.bin a.s y.e (fx t ks q) a y)) p' d else _) = _
    rw [if_pos (hq.trans hx), h, hq]; rfl
  | 2, _, h2 => exact absurd rfl h2
  | 3, _, _ =>
    have h : pr t ks n (.chain false) (q + 1) d = .ok b q' d := h
    have hs : sgn true x = true := by
      unfold sgn
      rw [if_pos rfl, Bool.or_eq_true]
      exact (show x = "+" ∨ x = "-" from hx).imp decide_eq_true decide_eq_true
    show (if sgn true (fx t ks q) then (pr t ks n (.chain false) (q + 1) d).bind fun y p' d => pr t ks n (.cloop true (Tr.bin a.s y.e (fx t ks q) a y)) p' d else _) = _
    rw [hq, if_pos hs, h]; rfl
  | 4, _, _ =>
    have h : pr t ks n .signed (q + 1) d = .ok b q' d := h
    have hs : sgn false x = true := by
      unfold sgn
      rw [if_neg (by decide), Bool.or_eq_true]
      exact (show x = "*" ∨ x = "/" from hx).imp decide_eq_true decide_eq_true
    show (if sgn false (fx t ks q) then (pr t ks n .signed (q + 1) d).bind fun y p' d => pr t ks n (.cloop false (Tr.bin a.s y.e (fx t ks q) a y)) p' d else _) = _
    rw [hq, if_pos hs, h]; rfl
theorem lpM_stop {k : Nat} (hk : k ≤ 4) (h2 : k ≠ 2) (hs : ¬ opk k (fx t ks q)) (n : Nat) (hn : 1 ≤ n) : pr t ks n (lpM k a) q d = .ok a q d := by
  match k, hk, h2 with
  | 0, _, _ => exact el_stop hn hs
  | 1, _, _ => exact el_stop hn hs
  | 2, _, h2 => exact absurd rfl h2
  | 3, _, _ => exact cl_stop hn (sgn_f3 hs)
  | 4, _, _ => exact cl_stop hn (sgn_f4 hs)
theorem off_pos (k : Nat) : 2 ≤ off k ∧ (k ≤ 4 → k ≠ 2 → off (k + 1) + 1 ≤ off k) := by
  match k with
  | 0 => exact ⟨by decide, fun _ _ => by decide⟩
  | 1 => exact ⟨by decide, fun _ _ => by decide⟩
  | 2 => exact ⟨by decide, fun _ h => absurd rfl h⟩
  | 3 => exact ⟨by decide, fun _ _ => by decide⟩
  | 4 => exact ⟨by decide, fun _ _ => by decide⟩
  | 5 => exact ⟨by decide, fun h => by omega⟩
  | k + 6 => exact ⟨Nat.le_refl _, fun h => by omega⟩
theorem cl_base {k : Nat} (ih : Cl t ks dep p q a (.lv (k + 1))) : Cl t ks dep p q a (.ch k) := by
  intro hk h2
  obtain ⟨f1, f2, _⟩ := ih (by omega)
  refine ⟨f1, fun d hd hs => ?_⟩
  have g := f2 d hd hs
  have := (off_pos (k + 1)).1
  exact ⟨a.fu + off (k + 1), 1, by omega, by omega, Nat.le_refl _, fun n hn => mdL_step hk h2 n (g n hn)⟩
theorem cl_step {k : Nat} {g x : Str} {zs ws : List Pc} (hx : opk k x) (h : Seq t ks p s (zs ++ ⟨g, x⟩ :: ws)) (ih1 : Seq t ks p s zs → Cl t ks dep p (p + zs.length) a (.ch k))
    (ih2 : Seq t ks (p + zs.length + 1) (s + flen (zs ++ [⟨g, x⟩])) ws → Cl t ks dep (p + zs.length + 1) (p + zs.length + 1 + ws.length) b (.lv (k + 1))) : Cl t ks dep p (p + (zs ++ ⟨g, x⟩ :: ws).length) (.bin a.s b.e x a b) (.ch k) := by
  intro hk h2
  obtain ⟨k1, k2⟩ := seq_app h
  have el : p + (zs ++ ⟨g, x⟩ :: ws).length = p + zs.length + 1 + ws.length := by simp only [List.length_cons, List.length_append]; omega
  have es : s + flen (zs ++ [⟨g, x⟩]) = s + flen zs + (Pc.mk g x).g.length + (Pc.mk g x).z.length := by simp only [flen_app, flen_cons, flen_nil]; omega
  have e1 : fx t ks (p + zs.length) = x := (seq_fx k2).trans (fxW_op hx)
  obtain ⟨f1, f2⟩ := ih1 k1 hk h2
  obtain ⟨_, f3, _⟩ := ih2 (by rw [es]; exact k2.2) (by omega)
  rw [el]
  refine ⟨f1, fun d hd hs => ?_⟩
  obtain ⟨M, c, hM, hc, hMc, g1⟩ := f2 d hd (by rw [e1]; exact stop_op hx)
  have g2 := f3 d hd hs
  have := (off_pos (k + 1)).1
  refine ⟨max (M - 1) (b.fu + off (k + 1)), c + 1, by omega, by show c + 1 ≤ a.spine + 1 + 1; omega, ?_, fun n hn => ?_⟩
  · show max (M - 1) (b.fu + off (k + 1)) + (c + 1) ≤ max (a.fu + 1) (b.fu + a.spine + 1) + off (k + 1) + 1
    omega
  rw [show n + (c + 1) = (n + 1) + c by omega, g1 _ (by omega)]
  exact lpM_step hk h2 hx e1 _ (g2 _ (by omega))
theorem cl_chn {k L dep' : Nat} (hL : L ≤ k) (hk : k ≤ 4) (h2 : k ≠ 2) (hdd : dep ≤ dep') (ih : Cl t ks dep p q a (.ch k)) : Cl t ks dep' p q a (.lv L) := by
  obtain ⟨f1, f2⟩ := ih hk h2
  refine cl_down hL (by omega) (f1.low (by omega)) fun d hd hs => ?_
  obtain ⟨M, c, hM, hc, hMc, g⟩ := f2 d (by omega) (hs.mono (by omega))
  have := (off_pos k).2 hk h2
  intro n hn
  obtain ⟨m, rfl⟩ : ∃ m, n = m + c := ⟨n - c, by omega⟩
  rw [g _ (by omega)]
  exact lpM_stop hk h2 (hs.nop (Nat.le_refl _)) _ (by omega)
theorem cl_lo (ih : Cl t ks dep p q a (.lv 0)) : Cl t ks dep p q a .val := by
  obtain ⟨f1, f2, _⟩ := ih (by omega)
  exact ⟨f1.cl, fun d hd hs => val_lo (f2 (d + 1) (by omega) hs) f1 (by omega)⟩
theorem cl_one (ih : Cl t ks dep p q a .val) : Cl t ks dep p q (.call 0 0 "" [a]) .as := by
  obtain ⟨f1, f2⟩ := ih
  refine ⟨f1, fun d hd hs => ?_⟩
  have g := f2 d hd hs
  refine ⟨a.fu + 11, 0, by omega, rfl, by show a.fu + 11 + 0 + 2 ≤ max a.fu 0 + 1 + 13; omega, fun n hn => ?_⟩
  rw [Nat.add_zero, g _ hn]; rfl
theorem cl_more {g : Str} {c : Tr} {zs ws : List Pc} (h : Seq t ks p s (zs ++ ⟨g, ","⟩ :: ws)) (ih1 : Seq t ks p s zs → Cl t ks dep p (p + zs.length) c .as)
    (ih2 : Seq t ks (p + zs.length + 1) (s + flen (zs ++ [⟨g, ","⟩])) ws → Cl t ks dep (p + zs.length + 1) (p + zs.length + 1 + ws.length) b .val) : Cl t ks dep p (p + (zs ++ ⟨g, ","⟩ :: ws).length) (.call 0 0 "" (c.parts ++ [b])) .as := by
  obtain ⟨k1, k2⟩ := seq_app h
  have el : p + (zs ++ ⟨g, ","⟩ :: ws).length = p + zs.length + 1 + ws.length := by simp only [List.length_cons, List.length_append]; omega
  have es : s + flen (zs ++ [⟨g, ","⟩]) = s + flen zs + (Pc.mk g ",").g.length + (Pc.mk g ",").z.length := by simp only [flen_app, flen_cons, flen_nil]; omega
  have e1 : fx t ks (p + zs.length) = "," := (seq_fx k2).trans (show fxW "," = "," by decide +kernel)
  obtain ⟨f1, f2⟩ := ih1 k1
  obtain ⟨_, f3⟩ := ih2 (by rw [es]; exact k2.2)
  rw [el]
  refine ⟨f1, fun d hd hs => ?_⟩
  obtain ⟨M, e, hM, he, hMe, g1⟩ := f2 d hd (by rw [e1]; exact stop_none (by decide +kernel))
  have g2 := f3 d hd hs
  refine ⟨max (M - 1) (b.fu + 11), e + 1, by omega, by show e + 1 + 1 = (c.parts ++ [b]).length; rw [List.length_append, List.length_singleton]; omega, ?_, fun n hn => ?_⟩
  · show max (M - 1) (b.fu + 11) + (e + 1) + 2 ≤ Tr.fus (c.parts ++ [b]) + (c.parts ++ [b]).length + 13
    rw [fus_app, List.length_append, List.length_singleton]; omega
  rw [show n + (e + 1) = (n + 1) + e by omega, g1 _ (by omega)]
  show (if fx t ks (p + zs.length) = "," then (pr t ks n .value (p + zs.length + 1) d).bind fun x p d => pr t ks n (.aloop (c.parts ++ [x])) p d else _) = _
  rw [if_pos e1, g2 _ (by omega)]
  rfl
theorem value_let {g1 : Str} {r : List Pc} {N : Nat} {x : Str} {md : Nat → Md} (hx : (x = "let" ∧ md = .letv) ∨ (x = "if" ∧ md = .ifv) ∨ (x = "loop" ∧ md = .loopv)) (h : Seq t ks p s (⟨g1, x⟩ :: r)) (hd : d < 30) (k : ∀ n, N ≤ n → pr t ks n (md (s + g1.length)) p (d + 1) = .ok a q (d + 1)) : PrOk t ks (N + 1) .value p d a q := by
  have e0 : fx t ks p = x := (seq_fx h).trans (show fxW x = x by rcases hx with ⟨rfl, _⟩ | ⟨rfl, _⟩ | ⟨rfl, _⟩ <;> decide +kernel)
  intro n hn
  obtain ⟨n, rfl⟩ : ∃ m, n = m + 1 := ⟨n - 1, by omega⟩
  have k := k n (by omega)
  show (beginR ks p d).bind _ = _
  rw [begin_ok h hd]
  show (if fx t ks p = "let" then pr t ks n (.letv (s + g1.length)) p (d + 1) else if fx t ks p = "if" then pr t ks n (.ifv (s + g1.length)) p (d + 1) else if fx t ks p = "loop" then pr t ks n (.loopv (s + g1.length)) p (d + 1) else _).bind _ = _
  rcases hx with ⟨rfl, rfl⟩ | ⟨rfl, rfl⟩ | ⟨rfl, rfl⟩
  · rw [if_pos e0, k]; rfl
  · rw [if_neg (by rw [e0]; decide +kernel), if_pos e0, k]; rfl
  · rw [if_neg (by rw [e0]; decide +kernel), if_neg (by rw [e0]; decide +kernel), if_pos e0, k]; rfl
end
end DL

set_option Elab.async false
set_option linter.all false
set_option maxRecDepth 100000
namespace DL
open PySem PySem.Spec PyProof.Rows L2 TL
section
variable {t : Str} {ks : List Tk} {p q d dep s : Nat} {a b c : Tr}
theorem cl_lt {g1 g2 g3 g4 n : Str} {zs ws : List Pc} (hn : nameW n) (he : b.e = s + flen (⟨g1, "let"⟩ :: ⟨g2, n⟩ :: ⟨g3, "="⟩ :: (zs ++ [⟨g4, "in"⟩])) + flen ws) (h : Seq t ks p s (⟨g1, "let"⟩ :: ⟨g2, n⟩ :: ⟨g3, "="⟩ :: (zs ++ ⟨g4, "in"⟩ :: ws)))
    (ih1 : Seq t ks (p + 3) (s + flen [⟨g1, "let"⟩, ⟨g2, n⟩, ⟨g3, "="⟩]) zs → Cl t ks dep (p + 3) (p + 3 + zs.length) a .val)
    (ih2 : Seq t ks (p + 3 + zs.length + 1) (s + flen (⟨g1, "let"⟩ :: ⟨g2, n⟩ :: ⟨g3, "="⟩ :: (zs ++ [⟨g4, "in"⟩]))) ws → Cl t ks dep (p + 3 + zs.length + 1) (p + 3 + zs.length + 1 + ws.length) b .val) :
    Cl t ks (dep + 1) p (p + (⟨g1, "let"⟩ :: ⟨g2, n⟩ :: ⟨g3, "="⟩ :: (zs ++ ⟨g4, "in"⟩ :: ws)).length) (.lt (s + g1.length) b.e n (s + flen [⟨g1, "let"⟩] + g2.length) a b) .val := by
  obtain ⟨k1, k2⟩ := seq_app h.2.2.2
  have el : p + (⟨g1, "let"⟩ :: ⟨g2, n⟩ :: ⟨g3, "="⟩ :: (zs ++ ⟨g4, "in"⟩ :: ws)).length = p + 3 + zs.length + 1 + ws.length := by simp only [List.length_cons, List.length_append]; omega
  have e0 : fx t ks p = "let" := (seq_fx h).trans (show fxW "let" = "let" by decide +kernel)
  have e1 : fx t ks (p + 2) = "=" := (seq_fx h.2.2).trans (show fxW "=" = "=" by decide +kernel)
  have e2 : fx t ks (p + 3 + zs.length) = "in" := (seq_fx k2).trans (show fxW "in" = "in" by decide +kernel)
  have es1 : s + flen [⟨g1, "let"⟩, ⟨g2, n⟩, ⟨g3, "="⟩] = s + (Pc.mk g1 "let").g.length + (Pc.mk g1 "let").z.length + (Pc.mk g2 n).g.length + (Pc.mk g2 n).z.length + (Pc.mk g3 "=").g.length + (Pc.mk g3 "=").z.length := by simp only [flen_cons, flen_nil]; omega
  have es2 : s + flen (⟨g1, "let"⟩ :: ⟨g2, n⟩ :: ⟨g3, "="⟩ :: (zs ++ [⟨g4, "in"⟩])) = s + (Pc.mk g1 "let").g.length + (Pc.mk g1 "let").z.length + (Pc.mk g2 n).g.length + (Pc.mk g2 n).z.length + (Pc.mk g3 "=").g.length + (Pc.mk g3 "=").z.length + flen zs + (Pc.mk g4 "in").g.length + (Pc.mk g4 "in").z.length := by simp only [flen_app, flen_cons, flen_nil]; omega
  have es3 : s + flen [⟨g1, "let"⟩] + g2.length = s + (Pc.mk g1 "let").g.length + (Pc.mk g1 "let").z.length + (Pc.mk g2 n).g.length := by simp only [flen_cons, flen_nil]; omega
  have e3 := seq_lend h (by simp)
  have e4 : b.e = s + flen (⟨g1, "let"⟩ :: ⟨g2, n⟩ :: ⟨g3, "="⟩ :: (zs ++ ⟨g4, "in"⟩ :: ws)) := by rw [he]; simp only [flen_app, flen_cons, flen_nil]; omega
  rw [← e4, el] at e3
  obtain ⟨_, f2⟩ := ih1 (by rw [es1]; exact k1)
  obtain ⟨_, f3⟩ := ih2 (by rw [es2]; exact k2.2)
  rw [el]
  refine ⟨by rw [e0]; decide +kernel, fun d hd hs => ?_⟩
  have r1 := f2 (d + 1) (by omega) (by rw [e2]; exact stop_none (by decide +kernel))
  have r2 := f3 (d + 1) (by omega) hs
  refine value_let (N := max a.fu b.fu + 12) (.inl ⟨rfl, rfl⟩) h (by omega) fun n' hn' => ?_
  obtain ⟨m, rfl⟩ : ∃ m, n' = m + 1 := ⟨n' - 1, by omega⟩
  show (takeR t ks "let" p (d + 1)).bind _ = _
  rw [take_ok e0]
  show (markR t ks (p + 1) (d + 1)).bind _ = _
  rw [mark_ok h.2 hn]
  show (takeR t ks "=" (p + 2) (d + 1)).bind _ = _
  rw [take_ok e1]
  show (pr t ks m .value (p + 3) (d + 1)).bind _ = _
  rw [r1 m (by omega)]
  show (takeR t ks "in" (p + 3 + zs.length) (d + 1)).bind _ = _
  rw [take_ok e2]
  show (pr t ks m .value (p + 3 + zs.length + 1) (d + 1)).bind _ = _
  rw [r2 m (by omega)]
  show Rs.ok (Tr.lt (s + g1.length) (lend ks (p + 3 + zs.length + 1 + ws.length)) n (s + g1.length + (Pc.mk g1 "let").z.length + (Pc.mk g2 n).g.length) a b) _ _ = _
  rw [e3, es3]
theorem cl_ift {g1 g2 g3 : Str} {zs ws us : List Pc} (he : c.e = s + flen (⟨g1, "if"⟩ :: (zs ++ ⟨g2, "then"⟩ :: (ws ++ [⟨g3, "else"⟩]))) + flen us) (h : Seq t ks p s (⟨g1, "if"⟩ :: (zs ++ ⟨g2, "then"⟩ :: (ws ++ ⟨g3, "else"⟩ :: us))))
    (ih1 : Seq t ks (p + 1) (s + flen [⟨g1, "if"⟩]) zs → Cl t ks dep (p + 1) (p + 1 + zs.length) a .val)
    (ih2 : Seq t ks (p + 1 + zs.length + 1) (s + flen (⟨g1, "if"⟩ :: (zs ++ [⟨g2, "then"⟩]))) ws → Cl t ks dep (p + 1 + zs.length + 1) (p + 1 + zs.length + 1 + ws.length) b .val)
    (ih3 : Seq t ks (p + 1 + zs.length + 1 + ws.length + 1) (s + flen (⟨g1, "if"⟩ :: (zs ++ ⟨g2, "then"⟩ :: (ws ++ [⟨g3, "else"⟩])))) us → Cl t ks dep (p + 1 + zs.length + 1 + ws.length + 1) (p + 1 + zs.length + 1 + ws.length + 1 + us.length) c .val) :
    Cl t ks (dep + 1) p (p + (⟨g1, "if"⟩ :: (zs ++ ⟨g2, "then"⟩ :: (ws ++ ⟨g3, "else"⟩ :: us))).length) (.ift (s + g1.length) c.e a b c) .val := by
  obtain ⟨k1, k2⟩ := seq_app h.2
  obtain ⟨k3, k4⟩ := seq_app k2.2
  have el : p + (⟨g1, "if"⟩ :: (zs ++ ⟨g2, "then"⟩ :: (ws ++ ⟨g3, "else"⟩ :: us))).length = p + 1 + zs.length + 1 + ws.length + 1 + us.length := by simp only [List.length_cons, List.length_append]; omega
  have e0 : fx t ks p = "if" := (seq_fx h).trans (show fxW "if" = "if" by decide +kernel)
  have e1 : fx t ks (p + 1 + zs.length) = "then" := (seq_fx k2).trans (show fxW "then" = "then" by decide +kernel)
  have e2 : fx t ks (p + 1 + zs.length + 1 + ws.length) = "else" := (seq_fx k4).trans (show fxW "else" = "else" by decide +kernel)
  have es1 : s + flen [⟨g1, "if"⟩] = s + (Pc.mk g1 "if").g.length + (Pc.mk g1 "if").z.length := by simp only [flen_cons, flen_nil]; omega
  have es2 : s + flen (⟨g1, "if"⟩ :: (zs ++ [⟨g2, "then"⟩])) = s + (Pc.mk g1 "if").g.length + (Pc.mk g1 "if").z.length + flen zs + (Pc.mk g2 "then").g.length + (Pc.mk g2 "then").z.length := by simp only [flen_app, flen_cons, flen_nil]; omega
  have es3 : s + flen (⟨g1, "if"⟩ :: (zs ++ ⟨g2, "then"⟩ :: (ws ++ [⟨g3, "else"⟩]))) = s + (Pc.mk g1 "if").g.length + (Pc.mk g1 "if").z.length + flen zs + (Pc.mk g2 "then").g.length + (Pc.mk g2 "then").z.length + flen ws + (Pc.mk g3 "else").g.length + (Pc.mk g3 "else").z.length := by simp only [flen_app, flen_cons, flen_nil]; omega
  have e3 := seq_lend h (by simp)
  have e4 : c.e = s + flen (⟨g1, "if"⟩ :: (zs ++ ⟨g2, "then"⟩ :: (ws ++ ⟨g3, "else"⟩ :: us))) := by rw [he]; simp only [flen_app, flen_cons, flen_nil]; omega
  rw [← e4, el] at e3
  obtain ⟨_, f2⟩ := ih1 (by rw [es1]; exact k1)
  obtain ⟨_, f3⟩ := ih2 (by rw [es2]; exact k3)
  obtain ⟨_, f4⟩ := ih3 (by rw [es3]; exact k4.2)
  rw [el]
  refine ⟨by rw [e0]; decide +kernel, fun d hd hs => ?_⟩
  have r1 := f2 (d + 1) (by omega) (by rw [e1]; exact stop_none (by decide +kernel))
  have r2 := f3 (d + 1) (by omega) (by rw [e2]; exact stop_none (by decide +kernel))
  have r3 := f4 (d + 1) (by omega) hs
  refine value_let (N := max (max a.fu b.fu) c.fu + 12) (.inr (.inl ⟨rfl, rfl⟩)) h (by omega) fun n' hn' => ?_
  obtain ⟨m, rfl⟩ : ∃ m, n' = m + 1 := ⟨n' - 1, by omega⟩
  show (takeR t ks "if" p (d + 1)).bind _ = _
  rw [take_ok e0]
  show (pr t ks m .value (p + 1) (d + 1)).bind _ = _
  rw [r1 m (by omega)]
  show (takeR t ks "then" (p + 1 + zs.length) (d + 1)).bind _ = _
  rw [take_ok e1]
  show (pr t ks m .value (p + 1 + zs.length + 1) (d + 1)).bind _ = _
  rw [r2 m (by omega)]
  show (takeR t ks "else" (p + 1 + zs.length + 1 + ws.length) (d + 1)).bind _ = _
  rw [take_ok e2]
  show (pr t ks m .value (p + 1 + zs.length + 1 + ws.length + 1) (d + 1)).bind _ = _
  rw [r3 m (by omega)]
  show Rs.ok (Tr.ift (s + g1.length) (lend ks (p + 1 + zs.length + 1 + ws.length + 1 + us.length)) a b c) _ _ = _
  rw [e3]
theorem cl_lp {g1 g2 g3 g4 g5 n : Str} {zs ws us : List Pc} (hn : nameW n) (he : c.e = s + flen (⟨g1, "loop"⟩ :: ⟨g2, n⟩ :: ⟨g3, "="⟩ :: (zs ++ ⟨g4, "times"⟩ :: (ws ++ [⟨g5, "do"⟩]))) + flen us)
    (h : Seq t ks p s (⟨g1, "loop"⟩ :: ⟨g2, n⟩ :: ⟨g3, "="⟩ :: (zs ++ ⟨g4, "times"⟩ :: (ws ++ ⟨g5, "do"⟩ :: us))))
    (ih1 : Seq t ks (p + 3) (s + flen [⟨g1, "loop"⟩, ⟨g2, n⟩, ⟨g3, "="⟩]) zs → Cl t ks dep (p + 3) (p + 3 + zs.length) a .val)
    (ih2 : Seq t ks (p + 3 + zs.length + 1) (s + flen (⟨g1, "loop"⟩ :: ⟨g2, n⟩ :: ⟨g3, "="⟩ :: (zs ++ [⟨g4, "times"⟩]))) ws → Cl t ks dep (p + 3 + zs.length + 1) (p + 3 + zs.length + 1 + ws.length) b .val)
    (ih3 : Seq t ks (p + 3 + zs.length + 1 + ws.length + 1) (s + flen (⟨g1, "loop"⟩ :: ⟨g2, n⟩ :: ⟨g3, "="⟩ :: (zs ++ ⟨g4, "times"⟩ :: (ws ++ [⟨g5, "do"⟩])))) us → Cl t ks dep (p + 3 + zs.length + 1 + ws.length + 1) (p + 3 + zs.length + 1 + ws.length + 1 + us.length) c .val) :
    Cl t ks (dep + 1) p (p + (⟨g1, "loop"⟩ :: ⟨g2, n⟩ :: ⟨g3, "="⟩ :: (zs ++ ⟨g4, "times"⟩ :: (ws ++ ⟨g5, "do"⟩ :: us))).length) (.lp (s + g1.length) c.e n (s + flen [⟨g1, "loop"⟩] + g2.length) a b c) .val := by
  obtain ⟨k1, k2⟩ := seq_app h.2.2.2
  obtain ⟨k3, k4⟩ := seq_app k2.2
  have el : p + (⟨g1, "loop"⟩ :: ⟨g2, n⟩ :: ⟨g3, "="⟩ :: (zs ++ ⟨g4, "times"⟩ :: (ws ++ ⟨g5, "do"⟩ :: us))).length = p + 3 + zs.length + 1 + ws.length + 1 + us.length := by simp only [List.length_cons, List.length_append]; omega
  have e0 : fx t ks p = "loop" := (seq_fx h).trans (show fxW "loop" = "loop" by decide +kernel)
  have e1 : fx t ks (p + 2) = "=" := (seq_fx h.2.2).trans (show fxW "=" = "=" by decide +kernel)
  have e2 : fx t ks (p + 3 + zs.length) = "times" := (seq_fx k2).trans (show fxW "times" = "times" by decide +kernel)
  have e5 : fx t ks (p + 3 + zs.length + 1 + ws.length) = "do" := (seq_fx k4).trans (show fxW "do" = "do" by decide +kernel)
  have es1 : s + flen [⟨g1, "loop"⟩, ⟨g2, n⟩, ⟨g3, "="⟩] = s + (Pc.mk g1 "loop").g.length + (Pc.mk g1 "loop").z.length + (Pc.mk g2 n).g.length + (Pc.mk g2 n).z.length + (Pc.mk g3 "=").g.length + (Pc.mk g3 "=").z.length := by simp only [flen_cons, flen_nil]; omega
  have es2 : s + flen (⟨g1, "loop"⟩ :: ⟨g2, n⟩ :: ⟨g3, "="⟩ :: (zs ++ [⟨g4, "times"⟩])) = s + (Pc.mk g1 "loop").g.length + (Pc.mk g1 "loop").z.length + (Pc.mk g2 n).g.length + (Pc.mk g2 n).z.length + (Pc.mk g3 "=").g.length + (Pc.mk g3 "=").z.length + flen zs + (Pc.mk g4 "times").g.length + (Pc.mk g4 "times").z.length := by simp only [flen_app, flen_cons, flen_nil]; omega
  have es4 : s + flen (⟨g1, "loop"⟩ :: ⟨g2, n⟩ :: ⟨g3, "="⟩ :: (zs ++ ⟨g4, "times"⟩ :: (ws ++ [⟨g5, "do"⟩]))) = s + (Pc.mk g1 "loop").g.length + (Pc.mk g1 "loop").z.length + (Pc.mk g2 n).g.length + (Pc.mk g2 n).z.length + (Pc.mk g3 "=").g.length + (Pc.mk g3 "=").z.length + flen zs + (Pc.mk g4 "times").g.length + (Pc.mk g4 "times").z.length + flen ws + (Pc.mk g5 "do").g.length + (Pc.mk g5 "do").z.length := by simp only [flen_app, flen_cons, flen_nil]; omega
  have es3 : s + flen [⟨g1, "loop"⟩] + g2.length = s + (Pc.mk g1 "loop").g.length + (Pc.mk g1 "loop").z.length + (Pc.mk g2 n).g.length := by simp only [flen_cons, flen_nil]; omega
  have e3 := seq_lend h (by simp)
  have e4 : c.e = s + flen (⟨g1, "loop"⟩ :: ⟨g2, n⟩ :: ⟨g3, "="⟩ :: (zs ++ ⟨g4, "times"⟩ :: (ws ++ ⟨g5, "do"⟩ :: us))) := by rw [he]; simp only [flen_app, flen_cons, flen_nil]; omega
  rw [← e4, el] at e3
  obtain ⟨_, f2⟩ := ih1 (by rw [es1]; exact k1)
  obtain ⟨_, f3⟩ := ih2 (by rw [es2]; exact k3)
  obtain ⟨_, f4⟩ := ih3 (by rw [es4]; exact k4.2)
  rw [el]
  refine ⟨by rw [e0]; decide +kernel, fun d hd hs => ?_⟩
  have r1 := f2 (d + 1) (by omega) (by rw [e2]; exact stop_none (by decide +kernel))
  have r2 := f3 (d + 1) (by omega) (by rw [e5]; exact stop_none (by decide +kernel))
  have r3 := f4 (d + 1) (by omega) hs
  refine value_let (N := max (max a.fu b.fu) c.fu + 12) (.inr (.inr ⟨rfl, rfl⟩)) h (by omega) fun n' hn' => ?_
  obtain ⟨m, rfl⟩ : ∃ m, n' = m + 1 := ⟨n' - 1, by omega⟩
  show (takeR t ks "loop" p (d + 1)).bind _ = _
  rw [take_ok e0]
  show (markR t ks (p + 1) (d + 1)).bind _ = _
  rw [mark_ok h.2 hn]
  show (takeR t ks "=" (p + 2) (d + 1)).bind _ = _
  rw [take_ok e1]
  show (pr t ks m .value (p + 3) (d + 1)).bind _ = _
  rw [r1 m (by omega)]
  show (takeR t ks "times" (p + 3 + zs.length) (d + 1)).bind _ = _
  rw [take_ok e2]
  show (pr t ks m .value (p + 3 + zs.length + 1) (d + 1)).bind _ = _
  rw [r2 m (by omega)]
  show (takeR t ks "do" (p + 3 + zs.length + 1 + ws.length) (d + 1)).bind _ = _
  rw [take_ok e5]
  show (pr t ks m .value (p + 3 + zs.length + 1 + ws.length + 1) (d + 1)).bind _ = _
  rw [r3 m (by omega)]
  show Rs.ok (Tr.lp (s + g1.length) (lend ks (p + 3 + zs.length + 1 + ws.length + 1 + us.length)) n (s + g1.length + (Pc.mk g1 "loop").z.length + (Pc.mk g2 n).g.length) a b c) _ _ = _
  rw [e3, es3]
end
/-- THE PARSER READS WHAT WAS PRINTED -/
theorem pri_cl {t : Str} {ks : List Tk} {m : Pm} {dep s : Nat} {a : Tr} {zs : List Pc} (h : Pri m dep s a zs) : ∀ p, Seq t ks p s zs → Cl t ks dep p (p + zs.length) a m := by
  induction h with
  | num h => exact fun p q => cl_num h q
  | tru h => exact fun p q => cl_tru h q
  | nam h => exact fun p q => cl_nam h q
  | call0 h => exact fun p q => cl_call0 h q
  | call h _ ih => exact fun p q => cl_call h q (ih (p + 2))
  | one _ ih => exact fun p q => cl_one (ih p q)
  | more _ _ ih1 ih2 => exact fun p q => cl_more q (ih1 p) (ih2 _)
  | fld _ h ih => exact fun p q => cl_fld h q (ih p)
  | grp _ ih => exact fun p q => cl_grp q (ih (p + 1))
  | mns h _ ih => exact fun p q => cl_mns h q (ih (p + 1))
  | nt h _ ih => exact fun p q => cl_nt h q (ih (p + 1))
  | cmp h hd hx _ _ ih1 ih2 => exact fun p q => cl_cmp h hd hx q (ih1 p) (ih2 _)
  | base _ ih => exact fun p q => cl_base (ih p q)
  | step hx _ _ _ ih1 ih2 => exact fun p q => cl_step hx q (ih1 p) (ih2 _)
  | chn h1 h2 h3 h4 _ ih => exact fun p q => cl_chn h1 h2 h3 h4 (ih p q)
  | lo _ ih => exact fun p q => cl_lo (ih p q)
  | lt h _ h2 ih1 ih2 => exact fun p q => cl_lt h (pri_e h2 (fun z => nomatch z)) q (ih1 _) (ih2 _)
  | ift _ _ h3 ih1 ih2 ih3 => exact fun p q => cl_ift (pri_e h3 (fun z => nomatch z)) q (ih1 _) (ih2 _) (ih3 _)
  | lp h _ _ h3 ih1 ih2 ih3 => exact fun p q => cl_lp h (pri_e h3 (fun z => nomatch z)) q (ih1 _) (ih2 _) (ih3 _)
/-- a whole text of one tree, perhaps with more behind it -/
theorem read_doc {t : Str} {dep : Nat} {a : Tr} {zs post : List Pc} (h : Pri .val dep 0 a zs) (hd : dep < 30) (D : Doc t (zs ++ post)) (hs : Stop 0 (fx t (ksT t) zs.length)) : ∀ n, a.fu + 11 ≤ n → pr t (ksT t) n .value 0 0 = .ok a zs.length 0 := by
  have q := seq_doc D zs [] post rfl
  have := (pri_cl h 0 q).2 0 (by omega)
  rw [Nat.zero_add] at this
  exact this hs
end DL

set_option Elab.async false
set_option linter.all false
set_option maxRecDepth 100000
namespace DL
open PySem PySem.Spec PyProof.Rows L2 TL
/-! ### a token of digits -/
theorem run_take {p : Nat → Bool} : ∀ (l : List Nat), ∀ c ∈ l.take (run p l), p c = true
  | [], c, h => by cases h
  | d :: r, c, h => by
    by_cases hd : p d = true
    · have e : run p (d :: r) = run p r + 1 := by rw [run, if_pos hd]
      rw [e, List.take_succ_cons] at h
      rcases List.mem_cons.mp h with rfl | h
      · exact hd
      · exact run_take r c h
    · have e : run p (d :: r) = 0 := by rw [run, if_neg hd]
      rw [e] at h
      cases h
theorem tokC_num {a c : Nat} {r : List Nat} (h : (tokC a c r).s = "number") : ∀ x ∈ (c :: r).take ((tokC a c r).b - a), isDig x = true := by
  unfold tokC at *
  split at h
  · exfalso
    revert h
    show (if _ then ("word" : Str) else ("name" : Str)) = ("number" : Str) → False
    split <;> intro h <;> exact absurd h (by decide +kernel)
  · rename_i h1
    rw [if_neg h1]
    split at h
    · rename_i h2
      rw [if_pos h2]
      show ∀ x ∈ (c :: r).take (a + run isDig (c :: r) - a), isDig x = true
      rw [Nat.add_sub_cancel_left]
      exact run_take _
    · split at h
      · exact absurd (show ("sign" : Str) = "number" from h) (by decide +kernel)
      · exfalso
        revert h
        show (if _ then ("sign" : Str) else ("wrong" : Str)) = ("number" : Str) → False
        split <;> intro h <;> exact absurd h (by decide +kernel)
theorem scan_num : ∀ (l : List Nat) (a b : Nat) (m : Bool), ∀ k ∈ scanT a b m l, k.s = "number" → ∀ x ∈ (l.drop (k.a - a)).take (k.b - k.a), isDig x = true
  | [], a, b, m, k, hk => by unfold scanT at hk; cases hk
  | c :: r, a, b, m, k, hk => by
    have tail : ∀ b' m', k ∈ scanT (a + 1) b' m' r → k.s = "number" → ∀ x ∈ ((c :: r).drop (k.a - a)).take (k.b - k.a), isDig x = true := fun b' m' hk' hs x hx => by
      have ha := (scan_a r (a + 1) b' m' k hk').1
      rw [show k.a - a = (k.a - (a + 1)) + 1 by omega, List.drop_succ_cons] at hx
      exact scan_num r (a + 1) b' m' k hk' hs x hx
    rw [scan_cons] at hk
    split at hk
    · exact tail _ _ hk
    · split at hk
      · exact tail _ _ hk
      · rcases List.mem_cons.mp hk with rfl | hk
        · intro hs x hx
          rw [tokC_a, Nat.sub_self, List.drop_zero] at hx
          exact tokC_num hs x hx
        · exact tail _ _ hk
theorem num_dig {t : Str} {p : Nat} (h : srt (ksT t) p = "number") : ∀ c ∈ tl (cutN t (plc (ksT t) p).1 (plc (ksT t) p).2), 48 ≤ c ∧ c ≤ 57 := by
  cases e : (ksT t)[p]? with
  | none =>
    unfold srt at h
    rw [e] at h
    exact absurd h (by decide +kernel)
  | some k =>
    rw [srt_at e] at h
    rw [plc_at e]
    intro c hc
    unfold cutN at hc
    rw [tl_cutN, List.drop_take] at hc
    have hd := scan_num (tl t) 0 0 false k (List.mem_of_getElem? e) h c (by rw [Nat.sub_zero]; exact hc)
    unfold isDig at hd
    rw [Bool.and_eq_true] at hd
    exact ⟨Nat.ble_eq.mp hd.1, Nat.ble_eq.mp hd.2⟩
/-! ### the whole -/
def S_Reader___init__ (K : PySem.W.Frag) : DS := fun dvs o R X => ∃ (x dx : Addr) (t : Str), dvs = [.raw (.ref x), .d (.str t)] ∧ o = insOb K (clsA K "Reader") x dx [] ∧ t.length ≤ 100000 ∧ ((ksT t).length ≤ 300 → R (.d .none) (rdOb K x dx t 0 0)) ∧
  (∀ k, (ksT t)[300]? = some k → ∀ ex, SynEx K k.a k.b ex → X ex (rdOb K x dx t 0 0))
/-- a value and nothing behind it -/
def readV (t : Str) (n : Nat) : Rs Tr := (pr t (ksT t) n .value 0 0).bind fun a p d => if (ksT t).length ≤ p then .ok a p d else .bad (plc (ksT t) p).1 (plc (ksT t) p).2
def S_read_value (n : Nat) (K : PySem.W.Frag) : DS := fun dvs o R X => ∃ t : Str, dvs = [.d (.str t)] ∧ t.length ≤ 100000 ∧ (∀ k, (ksT t)[300]? = some k → ∀ ex (F : Ob), SynEx K k.a k.b ex → X ex (F.and o)) ∧ ((ksT t).length ≤ 300 → ∃ m, m ≤ n ∧ match readV t m with
  | .ok a _ _ => R (.d a.toD) o
  | .bad s e => ∀ ex (F : Ob), SynEx K s e ex → X ex (F.and o)
  | .out => False)
/-! ### how high a tree is -/
mutual
def Tr.hgt : Tr → Nat
  | .lt _ _ _ _ a b => max a.hgt b.hgt + 1
  | .ift _ _ a b c => max (max a.hgt b.hgt) c.hgt + 1
  | .lp _ _ _ _ a b c => max (max a.hgt b.hgt) c.hgt + 1
  | .bin _ _ _ a b => max a.hgt b.hgt + 1
  | .nt _ _ a => a.hgt + 1
  | .mns _ _ a => a.hgt + 1
  | .fld _ _ a _ => a.hgt + 1
  | .num _ _ _ => 1
  | .tru _ _ _ => 1
  | .grp _ _ a => a.hgt + 1
  | .nam _ _ _ => 1
  | .call _ _ _ as => Tr.hgts as + 2
def Tr.hgts : List Tr → Nat
  | [] => 0
  | a :: r => max a.hgt (Tr.hgts r)
end
theorem Sm.mono {d : PyData} {n : Nat} (h : Sm n d) : ∀ {m : Nat}, n ≤ m → Sm m d := by
  induction h with
  | non => exact fun _ => .non
  | bl => exact fun _ => .bl
  | int => exact fun _ => .int
  | str => exact fun _ => .str
  | tup l h ih =>
    intro m hm
    obtain ⟨m, rfl⟩ : ∃ k, m = k + 1 := ⟨m - 1, by omega⟩
    exact .tup l fun d hd => ih d hd (by omega)
  | lst l h ih =>
    intro m hm
    obtain ⟨m, rfl⟩ : ∃ k, m = k + 1 := ⟨m - 1, by omega⟩
    exact .lst l fun d hd => ih d hd (by omega)
theorem hgts_mem {b : Tr} : ∀ {l : List Tr}, b ∈ l → b.hgt ≤ Tr.hgts l
  | a :: r, h => by
    unfold Tr.hgts
    rcases List.mem_cons.mp h with rfl | h
    · omega
    · have := hgts_mem h; omega
theorem hgts_app (b : Tr) : ∀ l : List Tr, Tr.hgts (l ++ [b]) = max (Tr.hgts l) b.hgt
  | [] => by show max b.hgt 0 = max 0 b.hgt; omega
  | a :: r => by
    show max a.hgt (Tr.hgts (r ++ [b])) = max (max a.hgt (Tr.hgts r)) b.hgt
    rw [hgts_app b r]; omega
theorem sm_args {n : Nat} {g : Str} {s e : Nat} {as : List Tr} (hl : as.length < 2 ^ 62) (h : ∀ b ∈ as, Sm n b.toD) : Sm (n + 2) (.tuple [.str "call", nI s, nI e, .str g, .tuple (Tr.toDs as)]) := by
  refine .tup (by show 5 < 2 ^ 62; decide) fun d hd => ?_
  simp only [List.mem_cons, List.not_mem_nil, or_false] at hd
  rcases hd with rfl | rfl | rfl | rfl | rfl
  · exact .str
  · exact .int
  · exact .int
  · exact .str
  · rw [toDs_map]
    refine .tup (by rw [List.length_map]; exact hl) fun d hd => ?_
    obtain ⟨b, hb, rfl⟩ := List.mem_map.mp hd
    exact h b hb
theorem sm_t {n : Nat} {ds : List PyData} (hl : Nat.ble ds.length 8 = true) (h : ∀ d ∈ ds, Sm n d) : Sm (n + 1) (.tuple ds) := .tup (Nat.lt_of_le_of_lt (Nat.ble_eq.mp hl) (by decide)) h
theorem al_n {n : Nat} : ∀ d ∈ ([] : List PyData), Sm n d := fun _ h => nomatch h
theorem al_c {n : Nat} {d : PyData} {ds : List PyData} (h : Sm n d) (t : ∀ x ∈ ds, Sm n x) : ∀ x ∈ d :: ds, Sm n x := fun x hx => (List.mem_cons.mp hx).elim (fun e => by rw [e]; exact h) (t x)
theorem al_h {n : Nat} {s e : Nat} {w : Str} {ds : List PyData} (t : ∀ x ∈ ds, Sm n x) : ∀ x ∈ PyData.str w :: nI s :: nI e :: ds, Sm n x := al_c .str (al_c .int (al_c .int t))
/-- how deep the data of a tree are -/
theorem pri_sm {m : Pm} {dep s : Nat} {a : Tr} {zs : List Pc} (h : Pri m dep s a zs) : zs.length < 2 ^ 62 → (m ≠ .as → Sm a.hgt a.toD) ∧ (m = .as → (∀ b ∈ a.parts, Sm (Tr.hgts a.parts) b.toD) ∧ a.parts.length ≤ zs.length) := by
  induction h with
  | num _ | tru _ | nam _ => exact fun _ => ⟨fun _ => by simp only [Tr.toD, Tr.hgt]; exact sm_t (n := 0) rfl (al_h (al_c (by first | exact .str | exact .int | exact .bl) al_n)), fun z => nomatch z⟩
  | call0 _ => exact fun _ => ⟨fun _ => sm_args (as := []) (by show 0 < 2 ^ 62; decide) (fun b hb => nomatch hb), fun z => nomatch z⟩
  | call _ _ ih =>
    intro hz
    simp only [List.length_cons, List.length_append, List.length_nil] at hz
    obtain ⟨h1, h2⟩ := (ih (by omega)).2 rfl
    exact ⟨fun _ => sm_args (by omega) h1, fun z => nomatch z⟩
  | one _ ih =>
    intro hz
    refine ⟨fun z => absurd rfl z, fun _ => ⟨fun b hb => ?_, ?_⟩⟩
    · obtain rfl := List.mem_singleton.mp hb
      exact Sm.mono ((ih hz).1 (fun z => nomatch z)) (hgts_mem hb)
    · rename_i h _
      have := pri_ne h
      show 1 ≤ _
      exact List.length_pos_iff.mpr this
  | more h1 h2 ih1 ih2 =>
    intro hz
    simp only [List.length_cons, List.length_append] at hz
    obtain ⟨g1, g2⟩ := (ih1 (by omega)).2 rfl
    have g3 := (ih2 (by omega)).1 (fun z => nomatch z)
    refine ⟨fun z => absurd rfl z, fun _ => ⟨fun b hb => ?_, ?_⟩⟩
    · have hb : b ∈ _ ++ [_] := hb
      show Sm (Tr.hgts (_ ++ [_])) _
      rw [hgts_app]
      rcases List.mem_append.mp hb with hb | hb
      · exact Sm.mono (g1 b hb) (by omega)
      · obtain rfl := List.mem_singleton.mp hb
        exact Sm.mono g3 (by omega)
    · show (_ ++ [_]).length ≤ _
      simp only [List.length_cons, List.length_append, List.length_nil]
      omega
  | fld _ _ ih =>
    intro hz
    simp only [List.length_cons, List.length_append, List.length_nil] at hz
    have := (ih (by omega)).1 (fun z => nomatch z)
    exact ⟨fun _ => by simp only [Tr.toD, Tr.hgt]; exact sm_t rfl (al_h (al_c (Sm.mono this (Nat.le_refl _)) (al_c .str al_n))), fun z => nomatch z⟩
  | grp _ ih =>
    intro hz
    simp only [List.length_cons, List.length_append, List.length_nil] at hz
    have := (ih (by omega)).1 (fun z => nomatch z)
    exact ⟨fun _ => by simp only [Tr.toD, Tr.hgt]; exact sm_t rfl (al_h (al_c (Sm.mono this (Nat.le_refl _)) al_n)), fun z => nomatch z⟩
  | mns _ _ ih | nt _ _ ih =>
    intro hz
    simp only [List.length_cons] at hz
    have := (ih (by omega)).1 (fun z => nomatch z)
    exact ⟨fun _ => by simp only [Tr.toD, Tr.hgt]; exact sm_t rfl (al_h (al_c (Sm.mono this (Nat.le_refl _)) al_n)), fun z => nomatch z⟩
  | cmp _ _ _ _ _ ih1 ih2 | step _ _ _ _ ih1 ih2 =>
    intro hz
    simp only [List.length_cons, List.length_append] at hz
    have g1 := (ih1 (by omega)).1 (fun z => nomatch z)
    have g2 := (ih2 (by omega)).1 (fun z => nomatch z)
    exact ⟨fun _ => by simp only [Tr.toD, Tr.hgt]; exact sm_t rfl (al_h (al_c .str (al_c (Sm.mono g1 (by omega)) (al_c (Sm.mono g2 (by omega)) al_n)))), fun z => nomatch z⟩
  | base _ ih | chn _ _ _ _ _ ih | lo _ ih => exact fun hz => ⟨fun _ => (ih hz).1 (fun z => nomatch z), fun z => nomatch z⟩
  | lt _ _ _ ih1 ih2 =>
    intro hz
    simp only [List.length_cons, List.length_append] at hz
    have g1 := (ih1 (by omega)).1 (fun z => nomatch z)
    have g2 := (ih2 (by omega)).1 (fun z => nomatch z)
    exact ⟨fun _ => by simp only [Tr.toD, Tr.hgt]; exact sm_t rfl (al_h (al_c .str (al_c .int (al_c (Sm.mono g1 (by omega)) (al_c (Sm.mono g2 (by omega)) al_n))))), fun z => nomatch z⟩
  | ift _ _ _ ih1 ih2 ih3 =>
    intro hz
    simp only [List.length_cons, List.length_append] at hz
    have g1 := (ih1 (by omega)).1 (fun z => nomatch z)
    have g2 := (ih2 (by omega)).1 (fun z => nomatch z)
    have g3 := (ih3 (by omega)).1 (fun z => nomatch z)
    exact ⟨fun _ => by simp only [Tr.toD, Tr.hgt]; exact sm_t rfl (al_h (al_c (Sm.mono g1 (by omega)) (al_c (Sm.mono g2 (by omega)) (al_c (Sm.mono g3 (by omega)) al_n)))), fun z => nomatch z⟩
  | lp _ _ _ _ ih1 ih2 ih3 =>
    intro hz
    simp only [List.length_cons, List.length_append] at hz
    have g1 := (ih1 (by omega)).1 (fun z => nomatch z)
    have g2 := (ih2 (by omega)).1 (fun z => nomatch z)
    have g3 := (ih3 (by omega)).1 (fun z => nomatch z)
    exact ⟨fun _ => by simp only [Tr.toD, Tr.hgt]; exact sm_t rfl (al_h (al_c .str (al_c .int (al_c (Sm.mono g1 (by omega)) (al_c (Sm.mono g2 (by omega)) (al_c (Sm.mono g3 (by omega)) al_n)))))), fun z => nomatch z⟩
/-! ### the promises of the printers -/
def nB : Nat → Nat
  | 0 => 1
  | d + 1 => 3 * nB d + 5
theorem nB_pos : ∀ d, 1 ≤ nB d
  | 0 => Nat.le_refl _
  | d + 1 => by unfold nB; omega
def fB : Nat → Nat
  | 0 => 1
  | d + 1 => fB d + 2 * d + 18
structure TreeOk (a : Tr) (zs : List Pc) (dep : Nat) : Prop where
  b : flen zs ≤ 32 * zs.length
  n : zs.length ≤ nB dep
  h : a.hgt ≤ 2 * dep + 1
  f : a.fu ≤ fB dep
  s : a.spine ≤ 2 * dep
def GapOk (g : Str) (b : Bool) : Prop := gapB false (tl g) = true ∧ g.length ≤ 12 ∧ (b = true → tl g ≠ []) ∧ ∀ c, (tl g).head? = some c → isNam c = false ∧ c ≠ 61
def S__law_put (K : PySem.W.Frag) : DS := fun dvs o R X => ∃ (ω : Addr) (t z : Str), dvs = [.raw (.ref ω), .d (.str z)] ∧ o = outOb K ω t ∧ t.length + z.length ≤ 100000 ∧ R (.d .none) (outOb K ω (t ++ z))
def S__law_gap (K : PySem.W.Frag) : DS := fun dvs o R X => ∃ (τ ω : Addr) (t : Str) (b : Bool), dvs = [.raw (.ref τ), .raw (.ref ω), .d (.bool b)] ∧ o = toOb K τ ω t ∧ t.length ≤ 90000 ∧ ∀ g, GapOk g b → R (.d .none) (toOb K τ ω (t ++ g))
def S__law_token_out (K : PySem.W.Frag) : DS := fun dvs o R X => ∃ (τ ω : Addr) (t z : Str) (ps : List Pc), dvs = [.raw (.ref τ), .raw (.ref ω), .d (.str z)] ∧ o = toOb K τ ω t ∧ Doc t ps ∧ wordB (tl z) = true ∧ t.length ≤ 80000 ∧ z.length ≤ 20 ∧
  ∀ g : Str, g.length ≤ 12 → Doc (t ++ g ++ z) (ps ++ [⟨g, z⟩]) → R (.d (nI (t.length + g.length))) (toOb K τ ω (t ++ g ++ z))
def S__law_some_name (K : PySem.W.Frag) : DS := fun dvs o R X => ∃ τ : Addr, dvs = [.raw (.ref τ)] ∧ o = tapeOb K τ ∧ ∀ z : Str, nameW z → wordB (tl z) = true → z.length ≤ 9 → R (.d (.str z)) (tapeOb K τ)
/-- what a printer of trees leaves -/
def TreeR (K : PySem.W.Frag) (τ ω : Addr) (t : Str) (ps : List Pc) (dep : Nat) (m : Tr → List Pc → Prop) (R : DV → Ob → Prop) : Prop := ∀ (a : Tr) (zs : List Pc) (t' : Str), m a zs → Doc t' (ps ++ zs) → TreeOk a zs dep → R (.d a.toD) (toOb K τ ω t')
def mdP (dep lvl s : Nat) : Tr → List Pc → Prop := Pri (if lvl = 0 then .val else .lv lvl) dep s
def S__law_tree (n : Nat) (K : PySem.W.Frag) : DS := fun dvs o R X => ∃ (τ ω : Addr) (t : Str) (ps : List Pc) (dep lvl : Nat), dvs = [.raw (.ref τ), .raw (.ref ω), .d (nI dep), .d (nI lvl)] ∧ o = toOb K τ ω t ∧ Doc t ps ∧ dep ≤ n ∧ lvl ≤ 6 ∧ t.length + 32 * nB dep ≤ 80000 ∧
  TreeR K τ ω t ps dep (mdP dep lvl t.length) R
def S__law_leaf (K : PySem.W.Frag) : DS := fun dvs o R X => ∃ (τ ω : Addr) (t : Str) (ps : List Pc) (c : Nat), dvs = [.raw (.ref τ), .raw (.ref ω), .d (nI c)] ∧ o = toOb K τ ω t ∧ Doc t ps ∧ c < 2 ∧ t.length ≤ 80000 ∧
  TreeR K τ ω t ps 0 (fun a zs => ∀ L dep, Pri (.lv L) dep t.length a zs) R
def S__law_call (n : Nat) (K : PySem.W.Frag) : DS := fun dvs o R X => ∃ (τ ω : Addr) (t : Str) (ps : List Pc) (dep : Nat), dvs = [.raw (.ref τ), .raw (.ref ω), .d (nI dep)] ∧ o = toOb K τ ω t ∧ Doc t ps ∧ 1 ≤ dep ∧ dep ≤ n ∧ t.length + 32 * nB dep ≤ 80000 ∧
  TreeR K τ ω t ps dep (fun a zs => ∀ L, Pri (.lv L) dep t.length a zs) R
def S__law_reach (n : Nat) (K : PySem.W.Frag) : DS := S__law_call n K
def PrefOk (word sign : Str) (lvl L : Nat) : Prop := (word = "minus" ∧ sign = "-" ∧ lvl = 5 ∧ L ≤ 5) ∨ (word = "not" ∧ sign = "not" ∧ lvl = 2 ∧ L ≤ 2)
def S__law_prefix (n : Nat) (K : PySem.W.Frag) : DS := fun dvs o R X => ∃ (τ ω : Addr) (t : Str) (ps : List Pc) (dep : Nat) (word sign : Str) (lvl L : Nat), dvs = [.raw (.ref τ), .raw (.ref ω), .d (nI dep), .d (.str word), .d (.str sign), .d (nI lvl)] ∧ o = toOb K τ ω t ∧ Doc t ps ∧ PrefOk word sign lvl L ∧ 1 ≤ dep ∧ dep ≤ n ∧ t.length + 32 * nB dep ≤ 80000 ∧
  TreeR K τ ω t ps dep (fun a zs => Pri (.lv L) dep t.length a zs) R
def S__law_binary (n : Nat) (K : PySem.W.Frag) : DS := fun dvs o R X => ∃ (τ ω : Addr) (t : Str) (ps : List Pc) (dep lvl : Nat), dvs = [.raw (.ref τ), .raw (.ref ω), .d (nI dep), .d (nI lvl)] ∧ o = toOb K τ ω t ∧ Doc t ps ∧ lvl < 5 ∧ 1 ≤ dep ∧ dep ≤ n ∧ t.length + 32 * nB dep ≤ 80000 ∧
  TreeR K τ ω t ps dep (fun a zs => Pri (.lv lvl) dep t.length a zs) R
def S__law_wide (n : Nat) (K : PySem.W.Frag) : DS := fun dvs o R X => ∃ (τ ω : Addr) (t : Str) (ps : List Pc) (dep c : Nat), dvs = [.raw (.ref τ), .raw (.ref ω), .d (nI dep), .d (nI c)] ∧ o = toOb K τ ω t ∧ Doc t ps ∧ 11 ≤ c ∧ c ≤ 13 ∧ 1 ≤ dep ∧ dep ≤ n ∧ t.length + 32 * nB dep ≤ 80000 ∧
  TreeR K τ ω t ps dep (fun a zs => Pri .val dep t.length a zs) R
end DL

set_option Elab.async false
set_option linter.all false
set_option maxRecDepth 100000
namespace DL
open PySem PySem.Spec PyProof.Rows L2 TL
theorem nB_mono {d : Nat} : ∀ {e : Nat}, d ≤ e → nB d ≤ nB e
  | 0, h => by rw [Nat.le_zero.mp h]; exact Nat.le_refl _
  | e + 1, h => by
    by_cases c : d = e + 1
    · rw [c]; exact Nat.le_refl _
    · have := nB_mono (d := d) (e := e) (by omega)
      show nB d ≤ 3 * nB e + 5
      omega
theorem fB_mono {d : Nat} : ∀ {e : Nat}, d ≤ e → fB d ≤ fB e
  | 0, h => by rw [Nat.le_zero.mp h]; exact Nat.le_refl _
  | e + 1, h => by
    by_cases c : d = e + 1
    · rw [c]; exact Nat.le_refl _
    · have := fB_mono (d := d) (e := e) (by omega)
      show fB d ≤ fB e + 2 * e + 18
      omega
theorem TreeOk.mono {a : Tr} {zs : List Pc} {d e : Nat} (h : TreeOk a zs d) (l : d ≤ e) : TreeOk a zs e :=
  ⟨h.b, Nat.le_trans h.n (nB_mono l), by have := h.h; omega, Nat.le_trans h.f (fB_mono l), by have := h.s; omega⟩
theorem treeOk_one {a : Tr} {g z : Str} (h1 : a.hgt ≤ 1) (h2 : a.fu ≤ 1) (h3 : a.spine = 0) (hg : g.length ≤ 12) (hz : z.length ≤ 20) : TreeOk a [⟨g, z⟩] 0 :=
  ⟨by simp only [flen_cons, flen_nil, List.length_cons, List.length_nil]; omega, by show 1 ≤ 1; omega, by omega, by show a.fu ≤ 1; omega, by omega⟩
structure DigOk (z : Str) : Prop where
  s : sortW (tl z) = "number"
  w : wordB (tl z) = true
  l : z.length ≤ 20
  v : ∃ n : Nat, PySem.intText? z = some (n : Int) ∧ n % 4294967296 = numV (tl z)
structure NameOk (z : Str) : Prop where
  s : nameW z
  w : wordB (tl z) = true
  l : z.length ≤ 9
theorem names_at (j : Nat) (hj : j < 10) : ∃ z : Str, ([PyData.str "a", .str "b", .str "f", .str "x1", .str "Point", .str "long_name", .str "y", .str "T", .str "iff", .str "Ints"])[j]? = some (.str z) ∧ NameOk z := by
  match j, hj with
  | 0, _ => exact ⟨_, rfl, by unfold nameW; decide +kernel, by decide +kernel, by decide +kernel⟩
  | 1, _ => exact ⟨_, rfl, by unfold nameW; decide +kernel, by decide +kernel, by decide +kernel⟩
  | 2, _ => exact ⟨_, rfl, by unfold nameW; decide +kernel, by decide +kernel, by decide +kernel⟩
  | 3, _ => exact ⟨_, rfl, by unfold nameW; decide +kernel, by decide +kernel, by decide +kernel⟩
  | 4, _ => exact ⟨_, rfl, by unfold nameW; decide +kernel, by decide +kernel, by decide +kernel⟩
  | 5, _ => exact ⟨_, rfl, by unfold nameW; decide +kernel, by decide +kernel, by decide +kernel⟩
  | 6, _ => exact ⟨_, rfl, by unfold nameW; decide +kernel, by decide +kernel, by decide +kernel⟩
  | 7, _ => exact ⟨_, rfl, by unfold nameW; decide +kernel, by decide +kernel, by decide +kernel⟩
  | 8, _ => exact ⟨_, rfl, by unfold nameW; decide +kernel, by decide +kernel, by decide +kernel⟩
  | 9, _ => exact ⟨_, rfl, by unfold nameW; decide +kernel, by decide +kernel, by decide +kernel⟩
theorem digs_at (j : Nat) (hj : j < 6) : ∃ z : Str, ([PyData.str "0", .str "7", .str "007", .str "4294967295", .str "4294967297", .str "12345678901234567890"])[j]? = some (.str z) ∧ DigOk z := by
  match j, hj with
  | 0, _ => exact ⟨_, rfl, by decide +kernel, by decide +kernel, by decide +kernel, 0, by decide +kernel, by decide +kernel⟩
  | 1, _ => exact ⟨_, rfl, by decide +kernel, by decide +kernel, by decide +kernel, 7, by decide +kernel, by decide +kernel⟩
  | 2, _ => exact ⟨_, rfl, by decide +kernel, by decide +kernel, by decide +kernel, 7, by decide +kernel, by decide +kernel⟩
  | 3, _ => exact ⟨_, rfl, by decide +kernel, by decide +kernel, by decide +kernel, 4294967295, by decide +kernel, by decide +kernel⟩
  | 4, _ => exact ⟨_, rfl, by decide +kernel, by decide +kernel, by decide +kernel, 4294967297, by decide +kernel, by decide +kernel⟩
  | 5, _ => exact ⟨_, rfl, by decide +kernel, by decide +kernel, by decide +kernel, 12345678901234567890, by decide +kernel, by decide +kernel⟩
/-! ### the arguments of a call -/
structure ArgsOk (parts : List Tr) (zs : List Pc) (s0 d k : Nat) : Prop where
  p : parts.length = k
  z : k = 0 → zs = []
  a : 0 < k → Pri .as d s0 (.call 0 0 "" parts) zs
  b : flen zs ≤ 32 * zs.length
  n : zs.length ≤ k * (nB d + 1) - 1
  h : Tr.hgts parts ≤ 2 * d + 1
  f : Tr.fus parts ≤ fB d
theorem args_nil (s0 d : Nat) : ArgsOk [] [] s0 d 0 := ⟨rfl, fun _ => rfl, fun h => by omega, Nat.le_refl _, Nat.zero_le _, Nat.zero_le _, Nat.zero_le _⟩
theorem args_one {a : Tr} {zs : List Pc} {s0 d : Nat} (h : Pri .val d s0 a zs) (k : TreeOk a zs d) : ArgsOk [a] zs s0 d 1 :=
  ⟨rfl, fun h => by omega, fun _ => .one h, k.b, by have := k.n; omega, by have := k.h; show max a.hgt 0 ≤ _; omega, by have := k.f; show max a.fu 0 ≤ _; omega⟩
theorem args_more {parts : List Tr} {b : Tr} {zs ws : List Pc} {g : Str} {s0 d k : Nat} (A : ArgsOk parts zs s0 d k) (hk : 0 < k) (hg : g.length ≤ 12) (h : Pri .val d (s0 + flen (zs ++ [⟨g, ","⟩])) b ws) (T : TreeOk b ws d) : ArgsOk (parts ++ [b]) (zs ++ ⟨g, ","⟩ :: ws) s0 d (k + 1) := by
  have hc : ("," : Str).length = 1 := by decide +kernel
  refine ⟨by rw [List.length_append, A.p]; rfl, fun h => by omega, fun _ => .more (A.a hk) h, ?_, ?_, ?_, ?_⟩
  · have := A.b; have := T.b
    rw [flen_app, flen_cons, List.length_append, List.length_cons]
    show flen zs + (g.length + ("," : Str).length + flen ws) ≤ _
    omega
  · have := A.n; have := T.n
    have hp : 0 < k * (nB d + 1) := Nat.mul_pos hk (by omega)
    rw [List.length_append, List.length_cons, Nat.succ_mul]
    omega
  · have := A.h; have := T.h
    rw [hgts_app]; omega
  · have := A.f; have := T.f
    rw [fus_app]; omega
theorem call_end {parts : List Tr} {zs : List Pc} {g g2 g3 z : Str} {s d k : Nat} (hz : nameW z) (zl : z.length ≤ 9) (h1 : g.length ≤ 12) (h2 : g2.length ≤ 12) (h3 : g3.length ≤ 12) (A : ArgsOk parts zs (s + flen [⟨g, z⟩, ⟨g2, "("⟩]) d k) (hk : k ≤ 3) :
    (∀ L, Pri (.lv L) (d + 1) s (.call (s + g.length) (s + flen (⟨g, z⟩ :: ⟨g2, "("⟩ :: (zs ++ [⟨g3, ")"⟩]))) z parts) (⟨g, z⟩ :: ⟨g2, "("⟩ :: (zs ++ [⟨g3, ")"⟩]))) ∧ TreeOk (.call (s + g.length) (s + flen (⟨g, z⟩ :: ⟨g2, "("⟩ :: (zs ++ [⟨g3, ")"⟩]))) z parts) (⟨g, z⟩ :: ⟨g2, "("⟩ :: (zs ++ [⟨g3, ")"⟩])) (d + 1) := by
  have c1 : ("(" : Str).length = 1 := by decide +kernel
  have c2 : (")" : Str).length = 1 := by decide +kernel
  refine ⟨fun L => ?_, ?_, ?_, ?_, ?_, ?_⟩
  · by_cases h : k = 0
    · obtain rfl := A.z h
      obtain rfl : parts = [] := List.eq_nil_of_length_eq_zero (by rw [A.p]; exact h)
      exact .call0 hz
    · exact .call (c := .call 0 0 "" parts) hz (A.a (by omega))
  · have := A.b
    simp only [flen_app, flen_cons, flen_nil, List.length_append, List.length_cons, List.length_nil]
    omega
  · have := A.n
    have hm : k * (nB d + 1) ≤ 3 * (nB d + 1) := Nat.mul_le_mul_right _ hk
    simp only [List.length_append, List.length_cons, List.length_nil]
    show _ ≤ 3 * nB d + 5
    omega
  · have := A.h
    show Tr.hgts parts + 2 ≤ _
    omega
  · have := A.f
    have := A.p
    show Tr.fus parts + parts.length + 13 ≤ fB d + 2 * d + 18
    omega
  · show 0 ≤ _
    omega
theorem pri_mono {m : Pm} {dep s : Nat} {a : Tr} {zs : List Pc} (h : Pri m dep s a zs) : ∀ {e : Nat}, dep ≤ e → Pri m e s a zs := by
  have up : ∀ {d e : Nat}, d + 1 ≤ e → ∃ k, e = k + 1 ∧ d ≤ k := fun {d e} h => ⟨e - 1, by omega, by omega⟩
  induction h with
  | num h => exact fun _ => .num h
  | tru h => exact fun _ => .tru h
  | nam h => exact fun _ => .nam h
  | call0 h => intro e l; obtain ⟨k, rfl, l'⟩ := up l; exact .call0 h
  | call h _ ih => intro e l; obtain ⟨k, rfl, l'⟩ := up l; exact .call h (ih l')
  | one _ ih => exact fun l => .one (ih l)
  | more _ _ ih1 ih2 => exact fun l => .more (ih1 l) (ih2 l)
  | fld _ h ih => exact fun l => .fld (ih l) h
  | grp _ ih => intro e l; obtain ⟨k, rfl, l'⟩ := up l; exact .grp (ih l')
  | mns h _ ih => intro e l; obtain ⟨k, rfl, l'⟩ := up l; exact .mns h (ih l')
  | nt h _ ih => intro e l; obtain ⟨k, rfl, l'⟩ := up l; exact .nt h (ih l')
  | cmp h1 h2 h3 h4 h5 _ _ => exact fun l => .cmp h1 (Nat.le_trans h2 l) h3 h4 h5
  | base _ ih => exact fun l => .base (ih l)
  | step h1 h2 _ _ ih1 ih2 => exact fun l => .step h1 h2 (ih1 l) (ih2 l)
  | chn h1 h2 h3 h4 h5 _ => exact fun l => .chn h1 h2 h3 (Nat.le_trans h4 l) h5
  | lo _ ih => exact fun l => .lo (ih l)
  | lt h _ _ ih1 ih2 => intro e l; obtain ⟨k, rfl, l'⟩ := up l; exact .lt h (ih1 l') (ih2 l')
  | ift _ _ _ ih1 ih2 ih3 => intro e l; obtain ⟨k, rfl, l'⟩ := up l; exact .ift (ih1 l') (ih2 l') (ih3 l')
  | lp h _ _ _ ih1 ih2 ih3 => intro e l; obtain ⟨k, rfl, l'⟩ := up l; exact .lp h (ih1 l') (ih2 l') (ih3 l')
/-! ### fields -/
structure RchOk (a : Tr) (zs : List Pc) (s e k : Nat) : Prop where
  p : Pri (.lv 6) e s a zs
  l : 0 < k → ∀ L, Pri (.lv L) e s a zs
  b : flen zs ≤ 32 * zs.length
  n : zs.length ≤ 1 + 2 * k
  h : a.hgt ≤ 1 + k
  f : a.fu ≤ 1 + k
  s : a.spine = 0
theorem rch_step {a : Tr} {zs : List Pc} {g1 g2 n : Str} {s e k : Nat} (A : RchOk a zs s e k) (hn : nameW n) (nl : n.length ≤ 9) (h1 : g1.length ≤ 12) (h2 : g2.length ≤ 12) : RchOk (.fld a.s (s + flen (zs ++ [⟨g1, "."⟩, ⟨g2, n⟩])) a n) (zs ++ [⟨g1, "."⟩, ⟨g2, n⟩]) s e (k + 1) := by
  have c1 : ("." : Str).length = 1 := by decide +kernel
  refine ⟨.fld A.p hn, fun _ L => .fld A.p hn, ?_, ?_, ?_, ?_, rfl⟩
  · have := A.b
    simp only [flen_app, flen_cons, flen_nil, List.length_append, List.length_cons, List.length_nil]; omega
  · have := A.n
    simp only [List.length_append, List.length_cons, List.length_nil]; omega
  · have := A.h
    show a.hgt + 1 ≤ _; omega
  · have := A.f
    show a.fu + 1 ≤ _; omega
theorem rch_end {a : Tr} {zs : List Pc} {s e k : Nat} (A : RchOk a zs s e k) (hk : k ≤ 2) (he : 1 ≤ e) : TreeOk a zs e := by
  obtain ⟨d, rfl⟩ : ∃ d, e = d + 1 := ⟨e - 1, by omega⟩
  have := nB_pos d
  refine ⟨A.b, ?_, ?_, ?_, ?_⟩
  · have := A.n
    show _ ≤ 3 * nB d + 5; omega
  · have := A.h; omega
  · have := A.f
    show _ ≤ fB d + 2 * d + 18; omega
  · have := A.s; omega
theorem tree_pref {a b : Tr} {zs : List Pc} {g x : Str} {d : Nat} (T : TreeOk a zs d) (hg : g.length ≤ 12) (hx : x.length ≤ 20) (h : b.hgt = a.hgt + 1) (f : b.fu = a.fu + 1) (sp : b.spine = 0) : TreeOk b (⟨g, x⟩ :: zs) (d + 1) := by
  refine ⟨?_, ?_, ?_, ?_, ?_⟩
  · have := T.b
    simp only [flen_cons, List.length_cons]; omega
  · have := T.n
    rw [List.length_cons]
    show _ ≤ 3 * nB d + 5; omega
  · have := T.h; omega
  · have := T.f
    show _ ≤ fB d + 2 * d + 18; omega
  · omega
theorem tree_if {a b c : Tr} {zs ws us : List Pc} {g1 g2 g3 : Str} {s e d : Nat} (A : TreeOk a zs d) (B : TreeOk b ws d) (C : TreeOk c us d) (h1 : g1.length ≤ 12) (h2 : g2.length ≤ 12) (h3 : g3.length ≤ 12) :
    TreeOk (.ift s e a b c) (⟨g1, "if"⟩ :: (zs ++ ⟨g2, "then"⟩ :: (ws ++ ⟨g3, "else"⟩ :: us))) (d + 1) := by
  have c1 : ("if" : Str).length = 2 := by decide +kernel
  have c2 : ("then" : Str).length = 4 := by decide +kernel
  have c3 : ("else" : Str).length = 4 := by decide +kernel
  refine ⟨?_, ?_, ?_, ?_, ?_⟩
  · have := A.b; have := B.b; have := C.b
    simp only [flen_app, flen_cons, flen_nil, List.length_append, List.length_cons, List.length_nil]; omega
  · have := A.n; have := B.n; have := C.n
    simp only [List.length_append, List.length_cons, List.length_nil]
    show _ ≤ 3 * nB d + 5; omega
  · have := A.h; have := B.h; have := C.h
    show max (max a.hgt b.hgt) c.hgt + 1 ≤ _; omega
  · have := A.f; have := B.f; have := C.f
    show max (max a.fu b.fu) c.fu + 2 ≤ fB d + 2 * d + 18; omega
  · show 0 ≤ _; omega
theorem tree_loop {a b c : Tr} {zs ws us : List Pc} {g1 g2 g3 g4 g5 n : Str} {s e m d : Nat} (A : TreeOk a zs d) (B : TreeOk b ws d) (C : TreeOk c us d) (h1 : g1.length ≤ 12) (h2 : g2.length ≤ 12) (h3 : g3.length ≤ 12) (h4 : g4.length ≤ 12) (h5 : g5.length ≤ 12) (hn : n.length ≤ 9) :
    TreeOk (.lp s e n m a b c) (⟨g1, "loop"⟩ :: ⟨g2, n⟩ :: ⟨g3, "="⟩ :: (zs ++ ⟨g4, "times"⟩ :: (ws ++ ⟨g5, "do"⟩ :: us))) (d + 1) := by
  have c1 : ("loop" : Str).length = 4 := by decide +kernel
  have c2 : ("times" : Str).length = 5 := by decide +kernel
  have c3 : ("do" : Str).length = 2 := by decide +kernel
  have c4 : ("=" : Str).length = 1 := by decide +kernel
  refine ⟨?_, ?_, ?_, ?_, ?_⟩
  · have := A.b; have := B.b; have := C.b
    simp only [flen_app, flen_cons, flen_nil, List.length_append, List.length_cons, List.length_nil]; omega
  · have := A.n; have := B.n; have := C.n
    simp only [List.length_append, List.length_cons, List.length_nil]
    show _ ≤ 3 * nB d + 5; omega
  · have := A.h; have := B.h; have := C.h
    show max (max a.hgt b.hgt) c.hgt + 1 ≤ _; omega
  · have := A.f; have := B.f; have := C.f
    show max (max a.fu b.fu) c.fu + 2 ≤ fB d + 2 * d + 18; omega
  · show 0 ≤ _; omega
theorem tree_let {a b : Tr} {zs ws : List Pc} {g1 g2 g3 g4 n : Str} {s e m d : Nat} (A : TreeOk a zs d) (B : TreeOk b ws d) (h1 : g1.length ≤ 12) (h2 : g2.length ≤ 12) (h3 : g3.length ≤ 12) (h4 : g4.length ≤ 12) (hn : n.length ≤ 9) :
    TreeOk (.lt s e n m a b) (⟨g1, "let"⟩ :: ⟨g2, n⟩ :: ⟨g3, "="⟩ :: (zs ++ ⟨g4, "in"⟩ :: ws)) (d + 1) := by
  have c1 : ("let" : Str).length = 3 := by decide +kernel
  have c2 : ("in" : Str).length = 2 := by decide +kernel
  have c4 : ("=" : Str).length = 1 := by decide +kernel
  have := nB_pos d
  refine ⟨?_, ?_, ?_, ?_, ?_⟩
  · have := A.b; have := B.b
    simp only [flen_app, flen_cons, flen_nil, List.length_append, List.length_cons, List.length_nil]; omega
  · have := A.n; have := B.n
    simp only [List.length_append, List.length_cons, List.length_nil]
    show _ ≤ 3 * nB d + 5; omega
  · have := A.h; have := B.h
    show max a.hgt b.hgt + 1 ≤ _; omega
  · have := A.f; have := B.f
    show max a.fu b.fu + 2 ≤ fB d + 2 * d + 18; omega
  · show 0 ≤ _; omega
theorem tree_grp {a : Tr} {zs : List Pc} {g1 g2 : Str} {s e d : Nat} (A : TreeOk a zs d) (h1 : g1.length ≤ 12) (h2 : g2.length ≤ 12) : TreeOk (.grp s e a) (⟨g1, "("⟩ :: (zs ++ [⟨g2, ")"⟩])) (d + 1) := by
  have c1 : ("(" : Str).length = 1 := by decide +kernel
  have c2 : (")" : Str).length = 1 := by decide +kernel
  have := nB_pos d
  refine ⟨?_, ?_, ?_, ?_, ?_⟩
  · have := A.b
    simp only [flen_app, flen_cons, flen_nil, List.length_append, List.length_cons, List.length_nil]; omega
  · have := A.n
    simp only [List.length_append, List.length_cons, List.length_nil]
    show _ ≤ 3 * nB d + 5; omega
  · have := A.h
    show a.hgt + 1 ≤ _; omega
  · have := A.f
    show a.fu + 12 ≤ fB d + 2 * d + 18; omega
  · show 0 ≤ _; omega
/-! ### chains of signs -/
structure BinOk (a : Tr) (zs : List Pc) (s d c k : Nat) : Prop where
  p : (c ≠ 2 ∧ Pri (.ch c) d s a zs) ∨ (c = 2 ∧ k = 0 ∧ Pri (.lv 3) d s a zs) ∨ (c = 2 ∧ 0 < k ∧ ∀ L, L ≤ 2 → Pri (.lv L) (d + 1) s a zs)
  b : flen zs ≤ 32 * zs.length
  n : zs.length + 1 ≤ (k + 1) * (nB d + 1)
  h : a.hgt ≤ 2 * d + 1 + k
  f : a.fu ≤ fB d + 2 * d + k
  s : a.spine ≤ 2 * d + k
theorem bin_start {a : Tr} {zs : List Pc} {s d c : Nat} (h : Pri (.lv (c + 1)) d s a zs) (T : TreeOk a zs d) : BinOk a zs s d c 0 := by
  refine ⟨?_, T.b, by have := T.n; omega, T.h, by have := T.f; omega, T.s⟩
  by_cases hc : c = 2
  · subst hc; exact .inr (.inl ⟨rfl, rfl, h⟩)
  · exact .inl ⟨hc, .base h⟩
theorem bin_step {a b : Tr} {zs ws : List Pc} {g x : Str} {s d c k : Nat} (A : BinOk a zs s d c k) (hk : c = 2 → k = 0) (hx : opk c x) (xl : x.length ≤ 3) (hg : g.length ≤ 12) (h : Pri (.lv (c + 1)) d (s + flen (zs ++ [⟨g, x⟩])) b ws) (T : TreeOk b ws d) : BinOk (.bin a.s b.e x a b) (zs ++ ⟨g, x⟩ :: ws) s d c (k + 1) := by
  refine ⟨?_, ?_, ?_, ?_, ?_, ?_⟩
  · rcases A.p with ⟨h1, h2⟩ | ⟨h1, h2, h3⟩ | ⟨h1, h2, _⟩
    · exact .inl ⟨h1, .step hx h1 h2 h⟩
    · subst h1
      exact .inr (.inr ⟨rfl, Nat.succ_pos _, fun L hL => .cmp hL (Nat.le_succ d) hx h3 h⟩)
    · have := hk h1; omega
  · have := A.b; have := T.b
    simp only [flen_app, flen_cons, flen_nil, List.length_append, List.length_cons, List.length_nil]; omega
  · have := A.n; have := T.n
    simp only [List.length_append, List.length_cons]
    rw [Nat.succ_mul (k + 1)]; omega
  · have := A.h; have := T.h
    show max a.hgt b.hgt + 1 ≤ _; omega
  · have := A.f; have := T.f; have := A.s
    show max (a.fu + 1) (b.fu + a.spine + 1) ≤ _; omega
  · have := A.s
    show a.spine + 1 ≤ _; omega
theorem bin_end {a : Tr} {zs : List Pc} {s d c k L : Nat} (A : BinOk a zs s d c k) (hk : k ≤ 2) (h1 : 0 < k) (hL : L ≤ c) (hc : c ≤ 4) : Pri (.lv L) (d + 1) s a zs ∧ TreeOk a zs (d + 1) := by
  refine ⟨?_, A.b, ?_, ?_, ?_, ?_⟩
  · rcases A.p with ⟨h1, h2⟩ | ⟨h1, h2, h3⟩ | ⟨h1, _, h2⟩
    · exact .chn hL hc h1 (Nat.le_succ d) h2
    · omega
    · subst h1; exact h2 L hL
  · have := A.n
    have hm : (k + 1) * (nB d + 1) ≤ 3 * (nB d + 1) := Nat.mul_le_mul_right _ (by omega)
    show _ ≤ 3 * nB d + 5; omega
  · have := A.h; omega
  · have := A.f
    show _ ≤ fB d + 2 * d + 18; omega
  · have := A.s; omega
theorem signs_at (c : Nat) (hc : c < 5) : ∃ xs : List Str, ([PyData.list [.str "or"], .list [.str "and"], .list [.str "==", .str "<"], .list [.str "+", .str "-"], .list [.str "*", .str "/"]])[c]? = some (.list (xs.map .str)) ∧ 1 ≤ xs.length ∧ xs.length ≤ 2 ∧ ∀ (j : Nat) (x : Str), xs[j]? = some x → opk c x ∧ wordB (tl x) = true ∧ x.length ≤ 3 := by
  have one : ∀ {a : Str} {p : Str → Prop}, p a → ∀ (j : Nat) (x : Str), [a][j]? = some x → p x := fun {a p} h j x hx => by
    match j, hx with
    | 0, hx => cases hx; exact h
  have two : ∀ {a b : Str} {p : Str → Prop}, p a → p b → ∀ (j : Nat) (x : Str), [a, b][j]? = some x → p x := fun {a b p} h k j x hx => by
    match j, hx with
    | 0, hx => cases hx; exact h
    | 1, hx => cases hx; exact k
  match c, hc with
  | 0, _ => exact ⟨["or"], rfl, by decide, by decide, one (p := fun x => opk 0 x ∧ wordB (tl x) = true ∧ x.length ≤ 3) ⟨rfl, by decide +kernel, by decide +kernel⟩⟩
  | 1, _ => exact ⟨["and"], rfl, by decide, by decide, one (p := fun x => opk 1 x ∧ wordB (tl x) = true ∧ x.length ≤ 3) ⟨rfl, by decide +kernel, by decide +kernel⟩⟩
  | 2, _ => exact ⟨["==", "<"], rfl, by decide, by decide, two (p := fun x => opk 2 x ∧ wordB (tl x) = true ∧ x.length ≤ 3) ⟨.inl rfl, by decide +kernel, by decide +kernel⟩ ⟨.inr rfl, by decide +kernel, by decide +kernel⟩⟩
  | 3, _ => exact ⟨["+", "-"], rfl, by decide, by decide, two (p := fun x => opk 3 x ∧ wordB (tl x) = true ∧ x.length ≤ 3) ⟨.inl rfl, by decide +kernel, by decide +kernel⟩ ⟨.inr rfl, by decide +kernel, by decide +kernel⟩⟩
  | 4, _ => exact ⟨["*", "/"], rfl, by decide, by decide, two (p := fun x => opk 4 x ∧ wordB (tl x) = true ∧ x.length ≤ 3) ⟨.inl rfl, by decide +kernel, by decide +kernel⟩ ⟨.inr rfl, by decide +kernel, by decide +kernel⟩⟩
theorem levs_at (c : Nat) (hc : c < 5) : ([PyData.int 1, .int 2, .int 3, .int 4, .int 5])[c]? = some (nI (c + 1)) := by
  match c, hc with
  | 0, _ => rfl
  | 1, _ => rfl
  | 2, _ => rfl
  | 3, _ => rfl
  | 4, _ => rfl
section
variable {K : Kx} {ρ : List Sl} {o : Ob} {R : RD}
theorem xc_intS {a : Str} {n : Int} (h1 : PySem.intText? a = some n) (h2 : a.length ≤ 640) (r : R (.d (.int n)) ρ o) : XC K (fun xs H Q => ∃ a n, xs = [.str a] ∧ PySem.intText? a = some n ∧ a.length ≤ 640 ∧ Q (.int n) H) [.d (.str a)] ρ o R := fun G σ H vs e h0 Q q => by
  obtain ⟨v, rfl, h⟩ := va1 h0
  cases vok_str h
  exact ⟨a, n, rfl, h1, h2, xq_now q e r (.int _)⟩
end
def S__law_treeP (n : Nat) (K : PySem.W.Frag) : DS := fun dvs o R X => ∃ m, n = m + 1 ∧ S__law_tree m K dvs o R X
end DL

set_option Elab.async false
set_option linter.all false
set_option maxRecDepth 100000
set_option maxHeartbeats 4000000
namespace My
open PySem PySem.Spec PyProof.Rows L2 DL
def k_LETTERS : Str := "abcdefghijklmnopqrstuvwxyzABCDEFGHIJKLMNOPQRSTUVWXYZ"
def k_DIGITS : Str := "0123456789"
def k_NAME_CHARACTERS : Str := "abcdefghijklmnopqrstuvwxyzABCDEFGHIJKLMNOPQRSTUVWXYZ0123456789_"
def k_SIGNS : Str := "()[],:.=<+-*/"
def k_WORDS : List Str := ["import", "data", "trait", "with", "impl", "for", "def", "let", "in", "if", "then", "else", "loop", "times", "do", "not", "and", "or", "True", "False"]
def k_SUMS : List Str := ["+", "-"]
def k_PRODUCTS : List Str := ["*", "/"]
def topS (i : Nat) : Stmt := PySem.Challenge.pw_samenames_k08_values_are_read_as_printed.main.body.getD i (.Pass ⟨0, 0, 0, 0⟩)
abbrev s__wall : Stmt := topS 0
abbrev N__wall : List Str := ["k"]
theorem sc__wall : FnScope N__wall ["k"] (defScope s__wall) := ⟨rfl, rfl, rfl, by decide +kernel, rfl, by decide +kernel, by decide +kernel⟩
abbrev s_SyntaxProblem___init__ : Stmt := inClass (topS 3) 0
abbrev N_SyntaxProblem___init__ : List Str := ["self", "start", "end"]
theorem sc_SyntaxProblem___init__ : FnScope N_SyntaxProblem___init__ ["self", "start", "end"] (defScope s_SyntaxProblem___init__) := ⟨rfl, rfl, rfl, by decide +kernel, rfl, by decide +kernel, by decide +kernel⟩
abbrev s_run_end : Stmt := topS 10
abbrev N_run_end : List Str := ["text", "start", "allowed", "end"]
theorem sc_run_end : FnScope N_run_end ["text", "start", "allowed"] (defScope s_run_end) := ⟨rfl, rfl, rfl, by decide +kernel, rfl, by decide +kernel, by decide +kernel⟩
abbrev s_token_at : Stmt := topS 11
abbrev N_token_at : List Str := ["text", "start", "char", "end"]
theorem sc_token_at : FnScope N_token_at ["text", "start"] (defScope s_token_at) := ⟨rfl, rfl, rfl, by decide +kernel, rfl, by decide +kernel, by decide +kernel⟩
abbrev s_tokens_between : Stmt := topS 12
abbrev N_tokens_between : List Str := ["text", "start", "end", "result", "at", "line_end", "token"]
theorem sc_tokens_between : FnScope N_tokens_between ["text", "start", "end"] (defScope s_tokens_between) := ⟨rfl, rfl, rfl, by decide +kernel, rfl, by decide +kernel, by decide +kernel⟩
abbrev s_tokens : Stmt := topS 13
abbrev N_tokens : List Str := ["text"]
theorem sc_tokens : FnScope N_tokens ["text"] (defScope s_tokens) := ⟨rfl, rfl, rfl, by decide +kernel, rfl, by decide +kernel, by decide +kernel⟩
abbrev s_number_value : Stmt := topS 14
abbrev N_number_value : List Str := ["digits", "value", "digit"]
theorem sc_number_value : FnScope N_number_value ["digits"] (defScope s_number_value) := ⟨rfl, rfl, rfl, by decide +kernel, rfl, by decide +kernel, by decide +kernel⟩
abbrev s_Reader___init__ : Stmt := inClass (topS 21) 0
abbrev N_Reader___init__ : List Str := ["self", "text"]
theorem sc_Reader___init__ : FnScope N_Reader___init__ ["self", "text"] (defScope s_Reader___init__) := ⟨rfl, rfl, rfl, by decide +kernel, rfl, by decide +kernel, by decide +kernel⟩
abbrev s_Reader_place : Stmt := inClass (topS 21) 1
abbrev N_Reader_place : List Str := ["self"]
theorem sc_Reader_place : FnScope N_Reader_place ["self"] (defScope s_Reader_place) := ⟨rfl, rfl, rfl, by decide +kernel, rfl, by decide +kernel, by decide +kernel⟩
abbrev s_Reader_need : Stmt := inClass (topS 21) 2
abbrev N_Reader_need : List Str := ["self", "condition", "start", "end"]
theorem sc_Reader_need : FnScope N_Reader_need ["self", "condition"] (defScope s_Reader_need) := ⟨rfl, rfl, rfl, by decide +kernel, rfl, by decide +kernel, by decide +kernel⟩
abbrev s_Reader_sort_now : Stmt := inClass (topS 21) 3
abbrev N_Reader_sort_now : List Str := ["self"]
theorem sc_Reader_sort_now : FnScope N_Reader_sort_now ["self"] (defScope s_Reader_sort_now) := ⟨rfl, rfl, rfl, by decide +kernel, rfl, by decide +kernel, by decide +kernel⟩
abbrev s_Reader_fixed : Stmt := inClass (topS 21) 4
abbrev N_Reader_fixed : List Str := ["self", "start", "end"]
theorem sc_Reader_fixed : FnScope N_Reader_fixed ["self"] (defScope s_Reader_fixed) := ⟨rfl, rfl, rfl, by decide +kernel, rfl, by decide +kernel, by decide +kernel⟩
abbrev s_Reader_last_end : Stmt := inClass (topS 21) 5
abbrev N_Reader_last_end : List Str := ["self"]
theorem sc_Reader_last_end : FnScope N_Reader_last_end ["self"] (defScope s_Reader_last_end) := ⟨rfl, rfl, rfl, by decide +kernel, rfl, by decide +kernel, by decide +kernel⟩
abbrev s_Reader_take : Stmt := inClass (topS 21) 6
abbrev N_Reader_take : List Str := ["self", "expected"]
theorem sc_Reader_take : FnScope N_Reader_take ["self", "expected"] (defScope s_Reader_take) := ⟨rfl, rfl, rfl, by decide +kernel, rfl, by decide +kernel, by decide +kernel⟩
abbrev s_Reader_try_take : Stmt := inClass (topS 21) 7
abbrev N_Reader_try_take : List Str := ["self", "expected"]
theorem sc_Reader_try_take : FnScope N_Reader_try_take ["self", "expected"] (defScope s_Reader_try_take) := ⟨rfl, rfl, rfl, by decide +kernel, rfl, by decide +kernel, by decide +kernel⟩
abbrev s_Reader_mark : Stmt := inClass (topS 21) 8
abbrev N_Reader_mark : List Str := ["self", "start", "end"]
theorem sc_Reader_mark : FnScope N_Reader_mark ["self"] (defScope s_Reader_mark) := ⟨rfl, rfl, rfl, by decide +kernel, rfl, by decide +kernel, by decide +kernel⟩
abbrev s_Reader_marks : Stmt := inClass (topS 21) 9
abbrev N_Reader_marks : List Str := ["self"]
theorem sc_Reader_marks : FnScope N_Reader_marks ["self"] (defScope s_Reader_marks) := ⟨rfl, rfl, rfl, by decide +kernel, rfl, by decide +kernel, by decide +kernel⟩
abbrev s_Reader_finish : Stmt := inClass (topS 21) 10
abbrev N_Reader_finish : List Str := ["self"]
theorem sc_Reader_finish : FnScope N_Reader_finish ["self"] (defScope s_Reader_finish) := ⟨rfl, rfl, rfl, by decide +kernel, rfl, by decide +kernel, by decide +kernel⟩
abbrev s_Reader_field : Stmt := inClass (topS 21) 11
abbrev N_Reader_field : List Str := ["self", "mark"]
theorem sc_Reader_field : FnScope N_Reader_field ["self"] (defScope s_Reader_field) := ⟨rfl, rfl, rfl, by decide +kernel, rfl, by decide +kernel, by decide +kernel⟩
abbrev s_Reader_fields : Stmt := inClass (topS 21) 12
abbrev N_Reader_fields : List Str := ["self", "result"]
theorem sc_Reader_fields : FnScope N_Reader_fields ["self"] (defScope s_Reader_fields) := ⟨rfl, rfl, rfl, by decide +kernel, rfl, by decide +kernel, by decide +kernel⟩
abbrev s_Reader_bound : Stmt := inClass (topS 21) 13
abbrev N_Reader_bound : List Str := ["self"]
theorem sc_Reader_bound : FnScope N_Reader_bound ["self"] (defScope s_Reader_bound) := ⟨rfl, rfl, rfl, by decide +kernel, rfl, by decide +kernel, by decide +kernel⟩
abbrev s_Reader_begin : Stmt := inClass (topS 21) 14
abbrev N_Reader_begin : List Str := ["self"]
theorem sc_Reader_begin : FnScope N_Reader_begin ["self"] (defScope s_Reader_begin) := ⟨rfl, rfl, rfl, by decide +kernel, rfl, by decide +kernel, by decide +kernel⟩
abbrev s_Reader_value : Stmt := inClass (topS 21) 15
abbrev N_Reader_value : List Str := ["self", "start", "tree"]
theorem sc_Reader_value : FnScope N_Reader_value ["self"] (defScope s_Reader_value) := ⟨rfl, rfl, rfl, by decide +kernel, rfl, by decide +kernel, by decide +kernel⟩
abbrev s_Reader_let_value : Stmt := inClass (topS 21) 16
abbrev N_Reader_let_value : List Str := ["self", "start", "name", "name_start", "first", "body"]
theorem sc_Reader_let_value : FnScope N_Reader_let_value ["self", "start"] (defScope s_Reader_let_value) := ⟨rfl, rfl, rfl, by decide +kernel, rfl, by decide +kernel, by decide +kernel⟩
abbrev s_Reader_if_value : Stmt := inClass (topS 21) 17
abbrev N_Reader_if_value : List Str := ["self", "start", "test", "yes", "no"]
theorem sc_Reader_if_value : FnScope N_Reader_if_value ["self", "start"] (defScope s_Reader_if_value) := ⟨rfl, rfl, rfl, by decide +kernel, rfl, by decide +kernel, by decide +kernel⟩
abbrev s_Reader_loop_value : Stmt := inClass (topS 21) 18
abbrev N_Reader_loop_value : List Str := ["self", "start", "name", "name_start", "first", "count", "step"]
theorem sc_Reader_loop_value : FnScope N_Reader_loop_value ["self", "start"] (defScope s_Reader_loop_value) := ⟨rfl, rfl, rfl, by decide +kernel, rfl, by decide +kernel, by decide +kernel⟩
abbrev s_Reader_either : Stmt := inClass (topS 21) 19
abbrev N_Reader_either : List Str := ["self", "level", "left", "sign", "right"]
theorem sc_Reader_either : FnScope N_Reader_either ["self", "level"] (defScope s_Reader_either) := ⟨rfl, rfl, rfl, by decide +kernel, rfl, by decide +kernel, by decide +kernel⟩
abbrev s_Reader_negated : Stmt := inClass (topS 21) 20
abbrev N_Reader_negated : List Str := ["self", "start", "inner"]
theorem sc_Reader_negated : FnScope N_Reader_negated ["self"] (defScope s_Reader_negated) := ⟨rfl, rfl, rfl, by decide +kernel, rfl, by decide +kernel, by decide +kernel⟩
abbrev s_Reader_compared : Stmt := inClass (topS 21) 21
abbrev N_Reader_compared : List Str := ["self", "left", "sign", "right"]
theorem sc_Reader_compared : FnScope N_Reader_compared ["self"] (defScope s_Reader_compared) := ⟨rfl, rfl, rfl, by decide +kernel, rfl, by decide +kernel, by decide +kernel⟩
abbrev s_Reader_chain : Stmt := inClass (topS 21) 22
abbrev N_Reader_chain : List Str := ["self", "signs", "left", "sign", "right"]
theorem sc_Reader_chain : FnScope N_Reader_chain ["self", "signs"] (defScope s_Reader_chain) := ⟨rfl, rfl, rfl, by decide +kernel, rfl, by decide +kernel, by decide +kernel⟩
abbrev s_Reader_signed : Stmt := inClass (topS 21) 23
abbrev N_Reader_signed : List Str := ["self", "start", "inner"]
theorem sc_Reader_signed : FnScope N_Reader_signed ["self"] (defScope s_Reader_signed) := ⟨rfl, rfl, rfl, by decide +kernel, rfl, by decide +kernel, by decide +kernel⟩
abbrev s_Reader_reached : Stmt := inClass (topS 21) 24
abbrev N_Reader_reached : List Str := ["self", "tree", "name", "_"]
theorem sc_Reader_reached : FnScope N_Reader_reached ["self"] (defScope s_Reader_reached) := ⟨rfl, rfl, rfl, by decide +kernel, rfl, by decide +kernel, by decide +kernel⟩
abbrev s_Reader_simple : Stmt := inClass (topS 21) 25
abbrev N_Reader_simple : List Str := ["self", "start", "end", "inner", "name", "_", "found"]
theorem sc_Reader_simple : FnScope N_Reader_simple ["self"] (defScope s_Reader_simple) := ⟨rfl, rfl, rfl, by decide +kernel, rfl, by decide +kernel, by decide +kernel⟩
abbrev s_Reader_arguments : Stmt := inClass (topS 21) 26
abbrev N_Reader_arguments : List Str := ["self", "found"]
theorem sc_Reader_arguments : FnScope N_Reader_arguments ["self"] (defScope s_Reader_arguments) := ⟨rfl, rfl, rfl, by decide +kernel, rfl, by decide +kernel, by decide +kernel⟩
abbrev s_read_value : Stmt := topS 23
abbrev N_read_value : List Str := ["text", "reader", "tree"]
theorem sc_read_value : FnScope N_read_value ["text"] (defScope s_read_value) := ⟨rfl, rfl, rfl, by decide +kernel, rfl, by decide +kernel, by decide +kernel⟩
abbrev s__law_tape : Stmt := topS 25
abbrev N__law_tape : List Str := ["_law_script", "_law_cell", "_law_cells", "_law_seed"]
theorem sc__law_tape : FnScope N__law_tape ["_law_script"] (defScope s__law_tape) := ⟨rfl, rfl, rfl, by decide +kernel, rfl, by decide +kernel, by decide +kernel⟩
abbrev s__law_take : Stmt := topS 26
abbrev N__law_take : List Str := ["_law_tape_here", "_law_many", "_law_drawn", "_law_mixed"]
theorem sc__law_take : FnScope N__law_take ["_law_tape_here", "_law_many"] (defScope s__law_take) := ⟨rfl, rfl, rfl, by decide +kernel, rfl, by decide +kernel, by decide +kernel⟩
abbrev s__law_is_integer : Stmt := topS 27
abbrev N__law_is_integer : List Str := ["_law_actual"]
theorem sc__law_is_integer : FnScope N__law_is_integer ["_law_actual"] (defScope s__law_is_integer) := ⟨rfl, rfl, rfl, by decide +kernel, rfl, by decide +kernel, by decide +kernel⟩
abbrev s__law_same_items : Stmt := topS 28
abbrev N__law_same_items : List Str := ["_law_actual", "_law_expected", "_law_k"]
theorem sc__law_same_items : FnScope N__law_same_items ["_law_actual", "_law_expected"] (defScope s__law_same_items) := ⟨rfl, rfl, rfl, by decide +kernel, rfl, by decide +kernel, by decide +kernel⟩
abbrev s__law_same : Stmt := topS 29
abbrev N__law_same : List Str := ["_law_actual", "_law_expected", "_law_key"]
theorem sc__law_same : FnScope N__law_same ["_law_actual", "_law_expected"] (defScope s__law_same) := ⟨rfl, rfl, rfl, by decide +kernel, rfl, by decide +kernel, by decide +kernel⟩
abbrev s__law_put : Stmt := topS 30
abbrev N__law_put : List Str := ["_law_out", "_law_string"]
theorem sc__law_put : FnScope N__law_put ["_law_out", "_law_string"] (defScope s__law_put) := ⟨rfl, rfl, rfl, by decide +kernel, rfl, by decide +kernel, by decide +kernel⟩
abbrev s__law_gap : Stmt := topS 31
abbrev N__law_gap : List Str := ["_law_tape_here", "_law_out", "_law_needed", "_law_gaps", "_law_gap_here"]
theorem sc__law_gap : FnScope N__law_gap ["_law_tape_here", "_law_out", "_law_needed"] (defScope s__law_gap) := ⟨rfl, rfl, rfl, by decide +kernel, rfl, by decide +kernel, by decide +kernel⟩
abbrev s__law_token_out : Stmt := topS 32
abbrev N__law_token_out : List Str := ["_law_tape_here", "_law_out", "_law_string", "_law_last", "_law_joins", "_law_letters", "_law_start"]
theorem sc__law_token_out : FnScope N__law_token_out ["_law_tape_here", "_law_out", "_law_string"] (defScope s__law_token_out) := ⟨rfl, rfl, rfl, by decide +kernel, rfl, by decide +kernel, by decide +kernel⟩
abbrev s__law_some_name : Stmt := topS 33
abbrev N__law_some_name : List Str := ["_law_tape_here", "_law_names"]
theorem sc__law_some_name : FnScope N__law_some_name ["_law_tape_here"] (defScope s__law_some_name) := ⟨rfl, rfl, rfl, by decide +kernel, rfl, by decide +kernel, by decide +kernel⟩
abbrev s__law_tree : Stmt := topS 34
abbrev N__law_tree : List Str := ["_law_tape_here", "_law_out", "_law_depth", "_law_level", "_law_choice", "_law_name", "_law_start", "_law_inner", "_law_end"]
theorem sc__law_tree : FnScope N__law_tree ["_law_tape_here", "_law_out", "_law_depth", "_law_level"] (defScope s__law_tree) := ⟨rfl, rfl, rfl, by decide +kernel, rfl, by decide +kernel, by decide +kernel⟩
abbrev s__law_leaf : Stmt := topS 35
abbrev N__law_leaf : List Str := ["_law_tape_here", "_law_out", "_law_choice", "_law_digits", "_law_start", "_law_word"]
theorem sc__law_leaf : FnScope N__law_leaf ["_law_tape_here", "_law_out", "_law_choice"] (defScope s__law_leaf) := ⟨rfl, rfl, rfl, by decide +kernel, rfl, by decide +kernel, by decide +kernel⟩
abbrev s__law_call : Stmt := topS 36
abbrev N__law_call : List Str := ["_law_tape_here", "_law_out", "_law_depth", "_law_name", "_law_start", "_law_found", "_law_k", "_law_end"]
theorem sc__law_call : FnScope N__law_call ["_law_tape_here", "_law_out", "_law_depth"] (defScope s__law_call) := ⟨rfl, rfl, rfl, by decide +kernel, rfl, by decide +kernel, by decide +kernel⟩
abbrev s__law_reach : Stmt := topS 37
abbrev N__law_reach : List Str := ["_law_tape_here", "_law_out", "_law_depth", "_law_tree_here", "_law_k", "_law_name", "_law_end"]
theorem sc__law_reach : FnScope N__law_reach ["_law_tape_here", "_law_out", "_law_depth"] (defScope s__law_reach) := ⟨rfl, rfl, rfl, by decide +kernel, rfl, by decide +kernel, by decide +kernel⟩
abbrev s__law_prefix : Stmt := topS 38
abbrev N__law_prefix : List Str := ["_law_tape_here", "_law_out", "_law_depth", "_law_word", "_law_sign", "_law_level", "_law_start", "_law_inner"]
theorem sc__law_prefix : FnScope N__law_prefix ["_law_tape_here", "_law_out", "_law_depth", "_law_word", "_law_sign", "_law_level"] (defScope s__law_prefix) := ⟨rfl, rfl, rfl, by decide +kernel, rfl, by decide +kernel, by decide +kernel⟩
abbrev s__law_binary : Stmt := topS 39
abbrev N__law_binary : List Str := ["_law_tape_here", "_law_out", "_law_depth", "_law_level", "_law_choice", "_law_signs", "_law_left", "_law_k", "_law_sign", "_law_right"]
theorem sc__law_binary : FnScope N__law_binary ["_law_tape_here", "_law_out", "_law_depth", "_law_level"] (defScope s__law_binary) := ⟨rfl, rfl, rfl, by decide +kernel, rfl, by decide +kernel, by decide +kernel⟩
abbrev s__law_wide : Stmt := topS 40
abbrev N__law_wide : List Str := ["_law_tape_here", "_law_out", "_law_depth", "_law_choice", "_law_start", "_law_test", "_law_yes", "_law_no", "_law_word", "_law_name", "_law_name_start", "_law_first", "_law_count", "_law_step", "_law_body"]
theorem sc__law_wide : FnScope N__law_wide ["_law_tape_here", "_law_out", "_law_depth", "_law_choice"] (defScope s__law_wide) := ⟨rfl, rfl, rfl, by decide +kernel, rfl, by decide +kernel, by decide +kernel⟩
abbrev s_law : Stmt := topS 41
abbrev N_law : List Str := ["_law_script", "_law_tape_here", "_law_out", "_law_tree_here", "_law_more", "_law_start", "e"]
theorem sc_law : FnScope N_law ["_law_script"] (defScope s_law) := ⟨rfl, rfl, rfl, by decide +kernel, rfl, by decide +kernel, by decide +kernel⟩
structure Txt (K : PySem.W.Frag) (mg : Str → Option Value) where
  a_Reader : Addr
  g_Reader : mg "Reader" = some (.ref a_Reader)
  i_Reader : PySem.W.nsIn K mainGlobals "Reader" = some (some (.ref a_Reader))
  cl_Reader : Cls K a_Reader
  no_Reader_text : NoAttr K a_Reader "text"
  no_Reader_tokens : NoAttr K a_Reader "tokens"
  no_Reader_at : NoAttr K a_Reader "at"
  no_Reader_depth : NoAttr K a_Reader "depth"
  a__wall : Addr
  fd__wall : FuncData
  F__wall : Fun K "_wall" "_wall" s__wall a__wall fd__wall
  g__wall : mg "_wall" = some (.ref a__wall)
  b__wall : Binds K fd__wall ["k"] []
  a_SyntaxProblem___init__ : Addr
  fd_SyntaxProblem___init__ : FuncData
  F_SyntaxProblem___init__ : Fun K "__init__" "SyntaxProblem.__init__" s_SyntaxProblem___init__ a_SyntaxProblem___init__ fd_SyntaxProblem___init__
  b_SyntaxProblem___init__ : Binds K fd_SyntaxProblem___init__ ["self", "start", "end"] []
  a_run_end : Addr
  fd_run_end : FuncData
  F_run_end : Fun K "run_end" "run_end" s_run_end a_run_end fd_run_end
  g_run_end : mg "run_end" = some (.ref a_run_end)
  b_run_end : Binds K fd_run_end ["text", "start", "allowed"] []
  a_token_at : Addr
  fd_token_at : FuncData
  F_token_at : Fun K "token_at" "token_at" s_token_at a_token_at fd_token_at
  g_token_at : mg "token_at" = some (.ref a_token_at)
  b_token_at : Binds K fd_token_at ["text", "start"] []
  a_tokens_between : Addr
  fd_tokens_between : FuncData
  F_tokens_between : Fun K "tokens_between" "tokens_between" s_tokens_between a_tokens_between fd_tokens_between
  g_tokens_between : mg "tokens_between" = some (.ref a_tokens_between)
  b_tokens_between : Binds K fd_tokens_between ["text", "start", "end"] []
  a_tokens : Addr
  fd_tokens : FuncData
  F_tokens : Fun K "tokens" "tokens" s_tokens a_tokens fd_tokens
  g_tokens : mg "tokens" = some (.ref a_tokens)
  b_tokens : Binds K fd_tokens ["text"] []
  a_number_value : Addr
  fd_number_value : FuncData
  F_number_value : Fun K "number_value" "number_value" s_number_value a_number_value fd_number_value
  g_number_value : mg "number_value" = some (.ref a_number_value)
  b_number_value : Binds K fd_number_value ["digits"] []
  a_Reader___init__ : Addr
  fd_Reader___init__ : FuncData
  F_Reader___init__ : Fun K "__init__" "Reader.__init__" s_Reader___init__ a_Reader___init__ fd_Reader___init__
  b_Reader___init__ : Binds K fd_Reader___init__ ["self", "text"] []
  m_Reader___init__ : Mk K a_Reader a_Reader___init__
  a_Reader_place : Addr
  fd_Reader_place : FuncData
  F_Reader_place : Fun K "place" "Reader.place" s_Reader_place a_Reader_place fd_Reader_place
  b_Reader_place : Binds K fd_Reader_place ["self"] []
  m_Reader_place : Meth K a_Reader "place" a_Reader_place
  a_Reader_need : Addr
  fd_Reader_need : FuncData
  F_Reader_need : Fun K "need" "Reader.need" s_Reader_need a_Reader_need fd_Reader_need
  b_Reader_need : Binds K fd_Reader_need ["self", "condition"] []
  m_Reader_need : Meth K a_Reader "need" a_Reader_need
  a_Reader_sort_now : Addr
  fd_Reader_sort_now : FuncData
  F_Reader_sort_now : Fun K "sort_now" "Reader.sort_now" s_Reader_sort_now a_Reader_sort_now fd_Reader_sort_now
  b_Reader_sort_now : Binds K fd_Reader_sort_now ["self"] []
  m_Reader_sort_now : Meth K a_Reader "sort_now" a_Reader_sort_now
  a_Reader_fixed : Addr
  fd_Reader_fixed : FuncData
  F_Reader_fixed : Fun K "fixed" "Reader.fixed" s_Reader_fixed a_Reader_fixed fd_Reader_fixed
  b_Reader_fixed : Binds K fd_Reader_fixed ["self"] []
  m_Reader_fixed : Meth K a_Reader "fixed" a_Reader_fixed
  a_Reader_last_end : Addr
  fd_Reader_last_end : FuncData
  F_Reader_last_end : Fun K "last_end" "Reader.last_end" s_Reader_last_end a_Reader_last_end fd_Reader_last_end
  b_Reader_last_end : Binds K fd_Reader_last_end ["self"] []
  m_Reader_last_end : Meth K a_Reader "last_end" a_Reader_last_end
  a_Reader_take : Addr
  fd_Reader_take : FuncData
  F_Reader_take : Fun K "take" "Reader.take" s_Reader_take a_Reader_take fd_Reader_take
  b_Reader_take : Binds K fd_Reader_take ["self", "expected"] []
  m_Reader_take : Meth K a_Reader "take" a_Reader_take
  a_Reader_try_take : Addr
  fd_Reader_try_take : FuncData
  F_Reader_try_take : Fun K "try_take" "Reader.try_take" s_Reader_try_take a_Reader_try_take fd_Reader_try_take
  b_Reader_try_take : Binds K fd_Reader_try_take ["self", "expected"] []
  m_Reader_try_take : Meth K a_Reader "try_take" a_Reader_try_take
  a_Reader_mark : Addr
  fd_Reader_mark : FuncData
  F_Reader_mark : Fun K "mark" "Reader.mark" s_Reader_mark a_Reader_mark fd_Reader_mark
  b_Reader_mark : Binds K fd_Reader_mark ["self"] []
  m_Reader_mark : Meth K a_Reader "mark" a_Reader_mark
  a_Reader_marks : Addr
  fd_Reader_marks : FuncData
  F_Reader_marks : Fun K "marks" "Reader.marks" s_Reader_marks a_Reader_marks fd_Reader_marks
  b_Reader_marks : Binds K fd_Reader_marks ["self"] []
  m_Reader_marks : Meth K a_Reader "marks" a_Reader_marks
  a_Reader_finish : Addr
  fd_Reader_finish : FuncData
  F_Reader_finish : Fun K "finish" "Reader.finish" s_Reader_finish a_Reader_finish fd_Reader_finish
  b_Reader_finish : Binds K fd_Reader_finish ["self"] []
  m_Reader_finish : Meth K a_Reader "finish" a_Reader_finish
  a_Reader_field : Addr
  fd_Reader_field : FuncData
  F_Reader_field : Fun K "field" "Reader.field" s_Reader_field a_Reader_field fd_Reader_field
  b_Reader_field : Binds K fd_Reader_field ["self"] []
  m_Reader_field : Meth K a_Reader "field" a_Reader_field
  a_Reader_fields : Addr
  fd_Reader_fields : FuncData
  F_Reader_fields : Fun K "fields" "Reader.fields" s_Reader_fields a_Reader_fields fd_Reader_fields
  b_Reader_fields : Binds K fd_Reader_fields ["self"] []
  m_Reader_fields : Meth K a_Reader "fields" a_Reader_fields
  a_Reader_bound : Addr
  fd_Reader_bound : FuncData
  F_Reader_bound : Fun K "bound" "Reader.bound" s_Reader_bound a_Reader_bound fd_Reader_bound
  b_Reader_bound : Binds K fd_Reader_bound ["self"] []
  m_Reader_bound : Meth K a_Reader "bound" a_Reader_bound
  a_Reader_begin : Addr
  fd_Reader_begin : FuncData
  F_Reader_begin : Fun K "begin" "Reader.begin" s_Reader_begin a_Reader_begin fd_Reader_begin
  b_Reader_begin : Binds K fd_Reader_begin ["self"] []
  m_Reader_begin : Meth K a_Reader "begin" a_Reader_begin
  a_Reader_value : Addr
  fd_Reader_value : FuncData
  F_Reader_value : Fun K "value" "Reader.value" s_Reader_value a_Reader_value fd_Reader_value
  b_Reader_value : Binds K fd_Reader_value ["self"] []
  m_Reader_value : Meth K a_Reader "value" a_Reader_value
  a_Reader_let_value : Addr
  fd_Reader_let_value : FuncData
  F_Reader_let_value : Fun K "let_value" "Reader.let_value" s_Reader_let_value a_Reader_let_value fd_Reader_let_value
  b_Reader_let_value : Binds K fd_Reader_let_value ["self", "start"] []
  m_Reader_let_value : Meth K a_Reader "let_value" a_Reader_let_value
  a_Reader_if_value : Addr
  fd_Reader_if_value : FuncData
  F_Reader_if_value : Fun K "if_value" "Reader.if_value" s_Reader_if_value a_Reader_if_value fd_Reader_if_value
  b_Reader_if_value : Binds K fd_Reader_if_value ["self", "start"] []
  m_Reader_if_value : Meth K a_Reader "if_value" a_Reader_if_value
  a_Reader_loop_value : Addr
  fd_Reader_loop_value : FuncData
  F_Reader_loop_value : Fun K "loop_value" "Reader.loop_value" s_Reader_loop_value a_Reader_loop_value fd_Reader_loop_value
  b_Reader_loop_value : Binds K fd_Reader_loop_value ["self", "start"] []
  m_Reader_loop_value : Meth K a_Reader "loop_value" a_Reader_loop_value
  a_Reader_either : Addr
  fd_Reader_either : FuncData
  F_Reader_either : Fun K "either" "Reader.either" s_Reader_either a_Reader_either fd_Reader_either
  b_Reader_either : Binds K fd_Reader_either ["self", "level"] []
  m_Reader_either : Meth K a_Reader "either" a_Reader_either
  a_Reader_negated : Addr
  fd_Reader_negated : FuncData
  F_Reader_negated : Fun K "negated" "Reader.negated" s_Reader_negated a_Reader_negated fd_Reader_negated
  b_Reader_negated : Binds K fd_Reader_negated ["self"] []
  m_Reader_negated : Meth K a_Reader "negated" a_Reader_negated
  a_Reader_compared : Addr
  fd_Reader_compared : FuncData
  F_Reader_compared : Fun K "compared" "Reader.compared" s_Reader_compared a_Reader_compared fd_Reader_compared
  b_Reader_compared : Binds K fd_Reader_compared ["self"] []
  m_Reader_compared : Meth K a_Reader "compared" a_Reader_compared
  a_Reader_chain : Addr
  fd_Reader_chain : FuncData
  F_Reader_chain : Fun K "chain" "Reader.chain" s_Reader_chain a_Reader_chain fd_Reader_chain
  b_Reader_chain : Binds K fd_Reader_chain ["self", "signs"] []
  m_Reader_chain : Meth K a_Reader "chain" a_Reader_chain
  a_Reader_signed : Addr
  fd_Reader_signed : FuncData
  F_Reader_signed : Fun K "signed" "Reader.signed" s_Reader_signed a_Reader_signed fd_Reader_signed
  b_Reader_signed : Binds K fd_Reader_signed ["self"] []
  m_Reader_signed : Meth K a_Reader "signed" a_Reader_signed
  a_Reader_reached : Addr
  fd_Reader_reached : FuncData
  F_Reader_reached : Fun K "reached" "Reader.reached" s_Reader_reached a_Reader_reached fd_Reader_reached
  b_Reader_reached : Binds K fd_Reader_reached ["self"] []
  m_Reader_reached : Meth K a_Reader "reached" a_Reader_reached
  a_Reader_simple : Addr
  fd_Reader_simple : FuncData
  F_Reader_simple : Fun K "simple" "Reader.simple" s_Reader_simple a_Reader_simple fd_Reader_simple
  b_Reader_simple : Binds K fd_Reader_simple ["self"] []
  m_Reader_simple : Meth K a_Reader "simple" a_Reader_simple
  a_Reader_arguments : Addr
  fd_Reader_arguments : FuncData
  F_Reader_arguments : Fun K "arguments" "Reader.arguments" s_Reader_arguments a_Reader_arguments fd_Reader_arguments
  b_Reader_arguments : Binds K fd_Reader_arguments ["self"] []
  m_Reader_arguments : Meth K a_Reader "arguments" a_Reader_arguments
  a_read_value : Addr
  fd_read_value : FuncData
  F_read_value : Fun K "read_value" "read_value" s_read_value a_read_value fd_read_value
  g_read_value : mg "read_value" = some (.ref a_read_value)
  b_read_value : Binds K fd_read_value ["text"] []
  a__law_tape : Addr
  fd__law_tape : FuncData
  F__law_tape : Fun K "_law_tape" "_law_tape" s__law_tape a__law_tape fd__law_tape
  g__law_tape : mg "_law_tape" = some (.ref a__law_tape)
  b__law_tape : Binds K fd__law_tape ["_law_script"] []
  a__law_take : Addr
  fd__law_take : FuncData
  F__law_take : Fun K "_law_take" "_law_take" s__law_take a__law_take fd__law_take
  g__law_take : mg "_law_take" = some (.ref a__law_take)
  b__law_take : Binds K fd__law_take ["_law_tape_here", "_law_many"] []
  a__law_is_integer : Addr
  fd__law_is_integer : FuncData
  F__law_is_integer : Fun K "_law_is_integer" "_law_is_integer" s__law_is_integer a__law_is_integer fd__law_is_integer
  g__law_is_integer : mg "_law_is_integer" = some (.ref a__law_is_integer)
  b__law_is_integer : Binds K fd__law_is_integer ["_law_actual"] []
  a__law_same_items : Addr
  fd__law_same_items : FuncData
  F__law_same_items : Fun K "_law_same_items" "_law_same_items" s__law_same_items a__law_same_items fd__law_same_items
  g__law_same_items : mg "_law_same_items" = some (.ref a__law_same_items)
  b__law_same_items : Binds K fd__law_same_items ["_law_actual", "_law_expected"] []
  a__law_same : Addr
  fd__law_same : FuncData
  F__law_same : Fun K "_law_same" "_law_same" s__law_same a__law_same fd__law_same
  g__law_same : mg "_law_same" = some (.ref a__law_same)
  b__law_same : Binds K fd__law_same ["_law_actual", "_law_expected"] []
  a__law_put : Addr
  fd__law_put : FuncData
  F__law_put : Fun K "_law_put" "_law_put" s__law_put a__law_put fd__law_put
  g__law_put : mg "_law_put" = some (.ref a__law_put)
  b__law_put : Binds K fd__law_put ["_law_out", "_law_string"] []
  a__law_gap : Addr
  fd__law_gap : FuncData
  F__law_gap : Fun K "_law_gap" "_law_gap" s__law_gap a__law_gap fd__law_gap
  g__law_gap : mg "_law_gap" = some (.ref a__law_gap)
  b__law_gap : Binds K fd__law_gap ["_law_tape_here", "_law_out", "_law_needed"] []
  a__law_token_out : Addr
  fd__law_token_out : FuncData
  F__law_token_out : Fun K "_law_token_out" "_law_token_out" s__law_token_out a__law_token_out fd__law_token_out
  g__law_token_out : mg "_law_token_out" = some (.ref a__law_token_out)
  b__law_token_out : Binds K fd__law_token_out ["_law_tape_here", "_law_out", "_law_string"] []
  a__law_some_name : Addr
  fd__law_some_name : FuncData
  F__law_some_name : Fun K "_law_some_name" "_law_some_name" s__law_some_name a__law_some_name fd__law_some_name
  g__law_some_name : mg "_law_some_name" = some (.ref a__law_some_name)
  b__law_some_name : Binds K fd__law_some_name ["_law_tape_here"] []
  a__law_tree : Addr
  fd__law_tree : FuncData
  F__law_tree : Fun K "_law_tree" "_law_tree" s__law_tree a__law_tree fd__law_tree
  g__law_tree : mg "_law_tree" = some (.ref a__law_tree)
  b__law_tree : Binds K fd__law_tree ["_law_tape_here", "_law_out", "_law_depth", "_law_level"] []
  a__law_leaf : Addr
  fd__law_leaf : FuncData
  F__law_leaf : Fun K "_law_leaf" "_law_leaf" s__law_leaf a__law_leaf fd__law_leaf
  g__law_leaf : mg "_law_leaf" = some (.ref a__law_leaf)
  b__law_leaf : Binds K fd__law_leaf ["_law_tape_here", "_law_out", "_law_choice"] []
  a__law_call : Addr
  fd__law_call : FuncData
  F__law_call : Fun K "_law_call" "_law_call" s__law_call a__law_call fd__law_call
  g__law_call : mg "_law_call" = some (.ref a__law_call)
  b__law_call : Binds K fd__law_call ["_law_tape_here", "_law_out", "_law_depth"] []
  a__law_reach : Addr
  fd__law_reach : FuncData
  F__law_reach : Fun K "_law_reach" "_law_reach" s__law_reach a__law_reach fd__law_reach
  g__law_reach : mg "_law_reach" = some (.ref a__law_reach)
  b__law_reach : Binds K fd__law_reach ["_law_tape_here", "_law_out", "_law_depth"] []
  a__law_prefix : Addr
  fd__law_prefix : FuncData
  F__law_prefix : Fun K "_law_prefix" "_law_prefix" s__law_prefix a__law_prefix fd__law_prefix
  g__law_prefix : mg "_law_prefix" = some (.ref a__law_prefix)
  b__law_prefix : Binds K fd__law_prefix ["_law_tape_here", "_law_out", "_law_depth", "_law_word", "_law_sign", "_law_level"] []
  a__law_binary : Addr
  fd__law_binary : FuncData
  F__law_binary : Fun K "_law_binary" "_law_binary" s__law_binary a__law_binary fd__law_binary
  g__law_binary : mg "_law_binary" = some (.ref a__law_binary)
  b__law_binary : Binds K fd__law_binary ["_law_tape_here", "_law_out", "_law_depth", "_law_level"] []
  a__law_wide : Addr
  fd__law_wide : FuncData
  F__law_wide : Fun K "_law_wide" "_law_wide" s__law_wide a__law_wide fd__law_wide
  g__law_wide : mg "_law_wide" = some (.ref a__law_wide)
  b__law_wide : Binds K fd__law_wide ["_law_tape_here", "_law_out", "_law_depth", "_law_choice"] []
  a_law : Addr
  fd_law : FuncData
  F_law : Fun K "law" "law" s_law a_law fd_law
  g_law : mg "law" = some (.ref a_law)
  b_law : Binds K fd_law ["_law_script"] []
  n_abs : mg "abs" = none
  n_bool : mg "bool" = none
  n_dict : mg "dict" = none
  n_int : mg "int" = none
  n_isinstance : mg "isinstance" = none
  n_len : mg "len" = none
  n_list : mg "list" = none
  n_range : mg "range" = none
  n_str : mg "str" = none
  n_tuple : mg "tuple" = none
  c_LETTERS : ∃ t, mg "LETTERS" = some (.str k_LETTERS t)
  c_DIGITS : ∃ t, mg "DIGITS" = some (.str k_DIGITS t)
  c_NAME_CHARACTERS : ∃ t, mg "NAME_CHARACTERS" = some (.str k_NAME_CHARACTERS t)
  c_SIGNS : ∃ t, mg "SIGNS" = some (.str k_SIGNS t)
  a_WORDS : Addr
  g_WORDS : mg "WORDS" = some (.ref a_WORDS)
  w_WORDS : ∀ G, Rp K G (.ref a_WORDS) (.tuple (k_WORDS.map .str))
  c_MOST_TOKENS : ∃ t, mg "MOST_TOKENS" = some (.int 300 t)
  c_MOST_DEPTH : ∃ t, mg "MOST_DEPTH" = some (.int 30 t)
  a_LEVELS : Addr
  g_LEVELS : mg "LEVELS" = some (.ref a_LEVELS)
  w_LEVELS : ∀ G, Rp K G (.ref a_LEVELS) (.tuple [.tuple ((["or"] : List Str).map .str), .tuple ((["and"] : List Str).map .str)])
  a_SUMS : Addr
  g_SUMS : mg "SUMS" = some (.ref a_SUMS)
  w_SUMS : ∀ G, Rp K G (.ref a_SUMS) (.tuple (k_SUMS.map .str))
  a_PRODUCTS : Addr
  g_PRODUCTS : mg "PRODUCTS" = some (.ref a_PRODUCTS)
  w_PRODUCTS : ∀ G, Rp K G (.ref a_PRODUCTS) (.tuple (k_PRODUCTS.map .str))
  e_ServerError : Addr
  i_ServerError : PySem.W.nsIn K mainGlobals "ServerError" = some (some (.ref e_ServerError))
  g_ServerError : mg "ServerError" = some (.ref e_ServerError)
  x_ServerError : PySem.W.excIn K e_ServerError [.type "ValueError", .type "Exception", .type "BaseException", .type "object"] "ValueError.__new__" = true
  k_ServerError : PySem.W.keepIn K (.ref e_ServerError) = true
  b_ServerError : PySem.W.subIn K (.ref e_ServerError) (.type "BaseException") = some true
  t_ServerError : PySem.W.typeIn K (.ref e_ServerError) = some (.type "type")
  d_ServerError : PySem.W.hasDictIn K e_ServerError = true
  e_SyntaxProblem : Addr
  i_SyntaxProblem : PySem.W.nsIn K mainGlobals "SyntaxProblem" = some (some (.ref e_SyntaxProblem))
  g_SyntaxProblem : mg "SyntaxProblem" = some (.ref e_SyntaxProblem)
  k_SyntaxProblem : PySem.W.keepIn K (.ref e_SyntaxProblem) = true
  b_SyntaxProblem : PySem.W.subIn K (.ref e_SyntaxProblem) (.type "BaseException") = some true
  t_SyntaxProblem : PySem.W.typeIn K (.ref e_SyntaxProblem) = some (.type "type")
  d_SyntaxProblem : PySem.W.hasDictIn K e_SyntaxProblem = true
  o_SyntaxProblem : OexC K e_SyntaxProblem
  j_SyntaxProblem : PySem.W.findIn K (.ref e_SyntaxProblem) "__init__" = some (some (.ref a_SyntaxProblem___init__))
  h_SyntaxProblem : PySem.W.typeIn K (.ref a_SyntaxProblem___init__) = some (.type "function")
  no_SyntaxProblem_start : PySem.W.findIn K (.ref e_SyntaxProblem) "start" = some none
  no_SyntaxProblem_end : PySem.W.findIn K (.ref e_SyntaxProblem) "end" = some none
  y_SyntaxProblem : ExcC K e_SyntaxProblem
  s_SyntaxProblem_SyntaxProblem : PySem.W.subIn K (.ref e_SyntaxProblem) (.ref e_SyntaxProblem) = some true
  s_SyntaxProblem_ServerError : PySem.W.subIn K (.ref e_SyntaxProblem) (.ref e_ServerError) = some true
/-- one step that has no choice (the key stands for «x») -/
local macro_rules | `(tactic| array_get_dec) => do
  let h := Lean.mkIdent `hrest
  let h1 := Lean.mkIdent `hthen
  let h2 := Lean.mkIdent `helse
  `(tactic| first
  | with_reducible refine ⟨kept_d, ?_⟩
  | with_reducible (first
    | ((show DL.XE _ _ _ _ _); first
      | ((show DL.XE _ (tC _) _ _ _); first | refine xe_int ?_ | refine xe_str ?_ | refine xe_bl ?_ | refine xe_non ?_ | refine xe_conR (by assumption) ?_ | refine xe_raw ?_)
      | refine xe_op ?_ | refine xe_cb ?_ | refine xe_call ?_ | refine xe_callS ?_ | refine xe_callH ?_ | refine xe_sl ?_ | refine xe_tupD ?_ | refine xe_lstD ?_ | refine xe_neg ?_ | refine xe_and ?_ | refine xe_or ?_ | refine xe_not ?_ | refine xe_chain ?_ | refine xe_chain3 ?_ | refine xe_if ?_ | refine xe_disp ?_ | refine xe_repC ?_ | ((show DL.XE _ (tBM _ _ rAppend _ _) _ _ _); refine xe_bmF ?_) | refine xe_bm ?_ | refine xe_bm0 ?_)
    | ((show PPairs _ _ _ _ _); first | refine pp_str ?_ | refine .nil ?_)
    | ((show XR _ _ _ _ _ _ _); first | refine xr_addI ?_ | refine xr_isB ?_ | refine xr_notB ?_ | refine xr_eqI ?_ | refine xr_eqS ?_ | refine xr_sub ?_ | refine xr_ltI ?_ | refine xr_leI ?_ | refine xr_gtI ?_ | refine xr_geI ?_ | refine xr_eqB ?_ | refine xr_neI ?_ | refine xr_neS ?_ | refine xr_leS ?_ | refine xr_inC ?_ | refine xr_notInC ?_ | refine xr_isN_non ?_ | refine xr_isN_int ?_ | refine xr_isN_str ?_ | refine xr_isN_bl ?_ | refine xr_isN_tup ?_ | refine xr_isN_lst ?_ | refine xr_notN_non ?_ | refine xr_notN_int ?_ | refine xr_notN_str ?_ | refine xr_notN_bl ?_ | refine xr_notN_tup ?_ | refine xr_notN_lst ?_)
    | ((show XC _ (rIsi _) _ _ _ _); first
      | ((show XC _ _ [_, DV.raw (V.ty "bool")] _ _ _); first | refine xc_isi ki_int_bool ?_ | refine xc_isi ki_str_bool ?_ | refine xc_isi ki_bool_bool ?_ | refine xc_isi ki_tuple_bool ?_ | refine xc_isi ki_list_bool ?_)
      | ((show XC _ _ [_, DV.raw (V.ty "int")] _ _ _); first | refine xc_isi ki_int_int ?_ | refine xc_isi ki_str_int ?_ | refine xc_isi ki_bool_int ?_ | refine xc_isi ki_tuple_int ?_ | refine xc_isi ki_list_int ?_)
      | ((show XC _ _ [_, DV.raw (V.ty "str")] _ _ _); first | refine xc_isi ki_int_str ?_ | refine xc_isi ki_str_str ?_ | refine xc_isi ki_bool_str ?_ | refine xc_isi ki_tuple_str ?_ | refine xc_isi ki_list_str ?_)
      | ((show XC _ _ [_, DV.raw (V.ty "tuple")] _ _ _); first | refine xc_isi ki_int_tuple ?_ | refine xc_isi ki_str_tuple ?_ | refine xc_isi ki_bool_tuple ?_ | refine xc_isi ki_tuple_tuple ?_ | refine xc_isi ki_list_tuple ?_)
      | ((show XC _ _ [_, DV.raw (V.ty "list")] _ _ _); first | refine xc_isi ki_int_list ?_ | refine xc_isi ki_str_list ?_ | refine xc_isi ki_bool_list ?_ | refine xc_isi ki_tuple_list ?_ | refine xc_isi ki_list_list ?_))
    | ((show XC _ _ _ _ _ _); first | refine xc_lenT ?_ | refine xc_abs ?_ | refine xc_min2 ?_ | refine xc_max2 ?_ | refine xc_int1 ?_)
    | ((show XA _ _ _ _ _); first | refine xa_nil ?_ | refine xa_cons ?_)
    | ((show XAF _ _ _ _ _); first | refine xaf_nil ?_ | refine xaf_cons ?_)
    | ((show XAD _ _ _ _ _); first | refine xad_nil ?_ | refine xad_cons ?_)
    | ((show XGs _ _ _ _ _ _); first | refine xgs_cons ?_ | refine xgs_nilM ?_)
    | ((show XO _ _ _ _ _); first | refine xo_no ?_ | refine xo_part ?_)
    | ((show XT _ _ _ _ _); first | refine xt_test ?_ | refine xt_b ?_ | refine xt_and ?_ | refine xt_or ?_ | refine xt_not ?_ | refine xt_tru ?_ | refine xt_yes ?_)
    | ((show XS _ _ _ _ _ _ _ _); first | refine xs_seqH fun _ $h => ?_ | refine xs_ifH fun _ _ $h1 $h2 => ?_ | refine xs_asg ?_ | refine xs_asgG ?_ | refine xs_ret ?_ | refine xs_retN ?_ | refine xs_drop ?_ | refine xs_next ?_ | refine xs_break ?_ | refine xs_cont ?_)
    | refine asr_d ?_ | refine hr_d ?_ | refine fz_d ?_ | refine out_d ?_ | refine asr_n ?_ | refine asr_r ?_ | refine hr_r ?_ | refine fz_r ?_ | refine fz_n ?_ | refine out_r ?_ | refine out_n ?_ | refine out_s ?_)
  | ((with_reducible show XG _ _ _ _ _ _); first | refine xg_tup ?_ | refine xg_nd ?_ | refine xg_nr ?_)
  | ((with_reducible show DL.XE _ (tVar _) _ _ _); first | refine xe_vd rfl ?_ | refine xe_vr rfl ?_ | refine xe_vo rfl ?_)
  | ((with_reducible show DL.XEF _ (tVar _) _ _ _); first | refine xf_vd rfl ?_ | refine xf_vr rfl ?_ | refine xf_vf rfl ?_ | refine xf_stuck ?_)
  | ((with_reducible show XC _ _ [DV.d (PyData.list _)] _ _ _); refine xc_lenL rfl ?_)
  | ((with_reducible show XC _ _ [DV.sl _ _] _ _ _); refine xc_lenL rfl ?_)
  | ((with_reducible show XC _ _ [DV.new _] _ _ _); refine xc_lenL rfl ?_)
  | with_reducible refine xf_of ?_
  | ((with_reducible show List.length _ ≤ sizeLine ∧ _); refine ⟨len_small rfl, ?_⟩)
  | with_reducible (first | refine ⟨ty_s, ?_⟩ | refine ⟨ty_o, ?_⟩ | refine ⟨ty_l, ?_⟩ | refine ⟨ty_n, ?_⟩)
  | with_reducible (first | refine bs_t ?_ | refine bs_f ?_ | refine bs_nt ?_ | refine bs_nf ?_ | refine noow_cons ⟨rfl, fun _ z => nomatch z⟩ ?_ | refine noow_nil)
  | with_reducible (first | refine ⟨_, tru_b, ?_⟩ | refine ⟨_, tru_l, ?_⟩ | refine ⟨_, tru_t, ?_⟩ | refine ⟨_, tru_s, ?_⟩)
  | ((with_reducible show DL.XE _ (tFld _ _ _) _ _ _); refine xe_fldV (by assumption) (by assumption) (by rfl) (by rfl) ?_)
  | ((with_reducible show XS _ (sFld _ _ _ _) _ _ _ _ _ _); refine xs_fldV (by assumption) (by assumption) ?_)
  | ((with_reducible show XS _ (sFldAug _ _ _ _ _) _ _ _ _ _ _); first | refine xs_rdAt (by assumption) (by assumption) (by rfl) ?_ | refine xs_rdUp (by assumption) (by assumption) (by rfl) ?_ | refine xs_rdDn (by assumption) (by assumption) (by rfl) ?_)
  | ((with_reducible show XS _ (sFldAug _ _ _ L2.rAdd _) _ _ _ _ _ _); refine xs_fldAddV (by assumption) (by assumption) (by rfl) (by rfl) (by rfl) ?_)
  | ((with_reducible show XS _ (sFldAug _ _ _ L2.rSub _) _ _ _ _ _ _); refine xs_fldSubV (by assumption) (by assumption) (by rfl) (by rfl) (by rfl) ?_)
  | ((with_reducible show DL.XE _ (tMeth _ _ _ _ _ _ _) _ _ _); refine xe_methV (by rfl) (by rfl) ?_)
  | ((with_reducible show DL.XE _ (tMethW _ _ _ _ _ _) _ _ _); refine xe_methWV (by rfl) (by rfl) ?_)
  | with_reducible refine ⟨rfl, ?_⟩ | with_reducible refine ⟨_, rfl, ?_⟩
  | (with_reducible refine $h1 _ _ ?_; clear $h1 $h2)
  | (with_reducible refine $h2 _ _ ?_; clear $h1 $h2)
  | (with_reducible refine $h _ _ ?_; clear $h)
  | ((with_reducible show DL.Kept _ (DV.sl _ _) ∧ _); refine ⟨kept_s rfl, ?_⟩)
  | with_reducible refine ⟨kept_r, ?_⟩ | with_reducible refine ⟨kept_n, ?_⟩)

section
variable {P : Program} {w : World} {K : PySem.W.Frag} {mg : Str → Option Value} {base : Heap}
theorem ok__law_take (T : Txt K mg)  : FnOk P w K mg base CX0 1 T.a__law_take T.fd__law_take ["_law_tape_here", "_law_many"] (spD K (S__law_take K)) := by
  refine fnD T.F__law_take sc__law_take ?len fun cdv A outer s H E hr => ?body
  case len => intro dvs o R X h; first | (obtain ⟨rfl, _⟩ := h; rfl) | (obtain ⟨_, rfl, _⟩ := h; rfl) | (obtain ⟨_, _, rfl, _⟩ := h; rfl) | (obtain ⟨_, _, _, rfl, _⟩ := h; rfl) | (obtain ⟨_, _, _, _, rfl, _⟩ := h; rfl) | (obtain ⟨_, _, _, _, _, rfl, _⟩ := h; rfl) | (obtain ⟨_, _, _, _, _, _, rfl, _⟩ := h; rfl) | (obtain ⟨_, _, _, _, _, _, _, rfl, _⟩ := h; rfl) | (obtain ⟨_, _, _, _, _, _, _, _, rfl, _⟩ := h; rfl) | (obtain ⟨_, _, _, _, _, _, _, _, _, rfl, _⟩ := h; rfl) | (obtain ⟨_, _, _, _, _, _, _, _, _, _, rfl, _⟩ := h; rfl) | (obtain ⟨_, _, _, _, _, _, _, _, _, _, _, rfl, _⟩ := h; rfl) | (obtain ⟨_, _, _, _, _, _, _, _, _, _, _, _, rfl, _⟩ := h; rfl)
  have nd := sc__law_take.nd
  have hu := hu_of hr
  refine ⟨_, (pss_cons (ps_if (PW.pt (pw_and (pt_cmpR (DL.op_eqK (K := K) rfl hr.units) (pe_dget hu (pv 0) pe_str (fun _ _ => rfl)) pe_int (nomark _)) (pw_and1 (pt_cmpR (DL.op_ltU) (pe_dget hu (pv 0) pe_str (fun _ _ => rfl)) (pe_callB (DL.call_lenK (K := K) rfl) (by rfl) T.n_len (by decide +kernel) (pa_cons (pe_dget hu (pv 0) pe_str (fun _ _ => rfl)) pa_nil)) (nomark _))))) (pss_cons (ps_dput hu (pv 0) pe_str (pe_ix (DL.ix_K (K := K) rfl) (pe_dget hu (pv 0) pe_str (fun _ _ => rfl)) (pe_dget hu (pv 0) pe_str (fun _ _ => rfl)) (fun _ _ => rfl)) rfl) (pss_one (ps_dput hu (pv 0) pe_str (pe_op (DL.op_addK (K := K) rfl) (pe_dget hu (pv 0) pe_str (fun _ _ => rfl)) pe_int) rfl))) pss_nil) (pss_cons (ps_if (pt_cmpR (op_gt) (pe_dget hu (pv 0) pe_str (fun _ _ => rfl)) pe_int (nomark _)) (pss_cons (ps_set (i := 2) nd rfl (Or.inl rfl) (pe_op op_modN (pe_callTy (call_int1) (by rfl) T.n_int (by decide +kernel) (pa_cons (pe_dget hu (pv 0) pe_str (fun _ _ => rfl)) pa_nil)) (pv 1))) (pss_cons (ps_dput hu (pv 0) pe_str (pe_op op_fdivN (pe_dget hu (pv 0) pe_str (fun _ _ => rfl)) (pv 1)) rfl) (pss_one (ps_ret (pv 2))))) pss_nil) (pss_cons (ps_dput hu (pv 0) pe_str (pe_op (DL.op_addK (K := K) rfl) (pe_dget hu (pv 0) pe_str (fun _ _ => rfl)) pe_int) rfl) (pss_cons (ps_set (i := 3) nd rfl (Or.inl rfl) (pe_op op_modN (pe_callTy (call_int1) (by rfl) T.n_int (by decide +kernel) (pa_cons (pe_op (DL.op_addK (K := K) rfl) (pe_op DL.op_mulU (pe_dget hu (pv 0) pe_str (fun _ _ => rfl)) pe_int) (pe_op DL.op_mulU (pe_dget hu (pv 0) pe_str (fun _ _ => rfl)) pe_int)) pa_nil)) pe_int)) (pss_cons (ps_set (i := 3) nd rfl (Or.inl rfl) (pe_op op_modN (pe_callTy (call_int1) (by rfl) T.n_int (by decide +kernel) (pa_cons (pe_op (DL.op_addK (K := K) rfl) (pe_op (DL.op_addK (K := K) rfl) (pe_op DL.op_mulU (pv 3) (pv 3)) (pe_op DL.op_mulU (pe_dget hu (pv 0) pe_str (fun _ _ => rfl)) pe_int)) pe_int) pa_nil)) pe_int)) (pss_one (ps_ret (pe_op op_modN (pe_callTy (call_int1) (by rfl) T.n_int (by decide +kernel) (pa_cons (pv 3) pa_nil)) (pv 1))))))))), ?_⟩
  intro dvs o R X h
  have st : ∀ z, dvs = z → startD N__law_take.length dvs = startD 4 z := fun z e => by rw [e]; rfl
  obtain ⟨τ, n, rfl, rfl, h0, h1, q⟩ := h
  rw [st _ rfl]; clear st; simp only [startD, toSl, List.map_cons, List.map_nil, List.length_cons, List.length_nil, List.cons_append, List.nil_append, List.append_nil, Nat.reduceAdd, Nat.reduceSub, List.reduceReplicate, Nat.zero_add, List.replicate_zero, Nat.sub_self]
  refine xs_tape fun ns a l s t inv => xs_le ?_
  refine xs_cut (fun ρ' o' => ∃ a' l', ρ' = [.raw (.ref τ), .val (.int n), .no, .no] ∧ o' = dicOb K τ (tapeKvs ns a' l' s t) ∧ TInv ns a' l' s t) ?_ ?_
  · array_get_dec
    refine xt_and (xt_test (xe_op (xe_tget tk_left rfl ?_)))
    repeat array_get_dec
    refine ⟨fun hl => ?_, fun hl => ⟨fun h => (nomatch h), fun _ => ?_⟩⟩
    rotate_left
    · repeat array_get_dec
      exact ⟨a, l, rfl, rfl, inv⟩
    refine xt_test (xe_op (xe_tget tk_at rfl ?_))
    repeat array_get_dec
    refine xe_tget tk_cells rfl ?_
    repeat array_get_dec
    refine ⟨fun hi => ?_, fun hi => ?_⟩
    rotate_left
    · repeat array_get_dec
      exact ⟨a, l, rfl, rfl, inv⟩
    have hi : a < ns.length := by simpa using hi
    have a0 := inv.a0
    have ha : a.toNat < ns.length := by omega
    repeat array_get_dec
    refine xs_tput _ (fun _ => tp_left) rfl (xe_op (xe_tget tk_cells rfl (xe_tget tk_at rfl ⟨trivial, xr_ixL (ds := ns.map .int) rfl (d := .int ns[a.toNat]) ?_ ⟨rfl, rfl, _, rfl, ?_⟩⟩)))
    · unfold atI ixN
      rw [if_pos a0, if_pos (by simpa using hi)]
      simp [ha]
    repeat array_get_dec
    refine xs_tput _ (fun _ => tp_at) rfl (xe_op (xe_tget tk_at rfl ?_))
    repeat array_get_dec
    refine ⟨a + 1, ns[a.toNat], rfl, rfl, ⟨inv.h, by omega, inv.h _ (List.getElem_mem _), inv.s0, inv.s1, inv.t0⟩⟩
  · rintro ρ1 o1 ⟨a, l, rfl, rfl, inv⟩
    repeat array_get_dec
    refine xe_tget tk_left rfl ?_
    repeat array_get_dec
    have l0 := inv.l0
    refine ⟨fun hl => ?_, fun hl => ?_⟩
    · repeat array_get_dec
      refine xe_tget tk_left rfl ?_
      repeat array_get_dec
      refine xr_fmod (show n ≠ 0 by omega) ?_
      repeat array_get_dec
      refine xs_tput _ (fun _ => tp_left) rfl (xe_op (xe_tget tk_left rfl ?_))
      repeat array_get_dec
      refine xr_fdiv ⟨show n ≠ 0 by omega, show n.natAbs < 1073741824 by omega⟩ ?_
      repeat array_get_dec
      have e1 := Int.fmod_eq_emod_of_nonneg l (show (0 : Int) ≤ n by omega)
      have e2 := Int.fdiv_eq_ediv_of_nonneg l (show (0 : Int) ≤ n by omega)
      refine ⟨tapeOb K τ, tape_le ⟨inv.h, inv.a0, ?_, inv.s0, inv.s1, inv.t0⟩, q _ ?_ ?_⟩
      · rw [e2]; exact Int.ediv_nonneg l0 (by omega)
      · rw [e1]; exact Int.emod_nonneg _ (by omega)
      · rw [e1]; exact Int.emod_lt_of_pos _ h0
    · repeat array_get_dec
      refine xs_tput _ (fun _ => tp_salt) rfl (xe_op (xe_tget tk_salt rfl ?_))
      repeat array_get_dec
      refine xe_tget tk_seed rfl ?_
      repeat array_get_dec
      refine xr_mulI (.inr ⟨by decide, by decide⟩) ?_
      repeat array_get_dec
      refine xe_tget tk_salt rfl ?_
      repeat array_get_dec
      refine xr_mulI (.inr ⟨by decide, by decide⟩) ?_
      repeat array_get_dec
      refine xr_fmod (by decide) ?_
      repeat array_get_dec
      have hm := Int.fmod_eq_emod_of_nonneg (s * 48271 + (t + 1) * 69621) (show (0 : Int) ≤ 2147483647 by decide)
      generalize (s * 48271 + (t + 1) * 69621).fmod 2147483647 = m1 at hm ⊢
      have m0 : 0 ≤ m1 := by rw [hm]; exact Int.emod_nonneg _ (by decide)
      have m2 : m1 < 2147483647 := by rw [hm]; exact Int.emod_lt_of_pos _ (by decide)
      refine xr_mulI (.inl ⟨show -(2 ^ 64) < m1 by omega, show m1 < 2 ^ 64 by omega⟩) ?_
      repeat array_get_dec
      refine xe_tget tk_salt rfl ?_
      repeat array_get_dec
      refine xr_mulI (.inr ⟨by decide, by decide⟩) ?_
      repeat array_get_dec
      refine xr_fmod (by decide) ?_
      repeat array_get_dec
      refine xr_fmod (show n ≠ 0 by omega) ?_
      repeat array_get_dec
      have t0 := inv.t0
      generalize (m1 * m1 + (t + 1) * 40692 + 12345).fmod 2147483399 = m3
      have e1 := Int.fmod_eq_emod_of_nonneg m3 (show (0 : Int) ≤ n by omega)
      refine ⟨tapeOb K τ, tape_le ⟨inv.h, inv.a0, inv.l0, inv.s0, inv.s1, by omega⟩, q _ ?_ ?_⟩
      · rw [e1]; exact Int.emod_nonneg _ (by omega)
      · rw [e1]; exact Int.emod_lt_of_pos _ h0

theorem ok__law_tape (T : Txt K mg)  : FnOk P w K mg base CX0 1 T.a__law_tape T.fd__law_tape ["_law_script"] (spD K (S__law_tape K)) := by
  refine fnD T.F__law_tape sc__law_tape ?len fun cdv A outer s H E hr => ?body
  case len => intro dvs o R X h; first | (obtain ⟨rfl, _⟩ := h; rfl) | (obtain ⟨_, rfl, _⟩ := h; rfl) | (obtain ⟨_, _, rfl, _⟩ := h; rfl) | (obtain ⟨_, _, _, rfl, _⟩ := h; rfl) | (obtain ⟨_, _, _, _, rfl, _⟩ := h; rfl) | (obtain ⟨_, _, _, _, _, rfl, _⟩ := h; rfl) | (obtain ⟨_, _, _, _, _, _, rfl, _⟩ := h; rfl) | (obtain ⟨_, _, _, _, _, _, _, rfl, _⟩ := h; rfl) | (obtain ⟨_, _, _, _, _, _, _, _, rfl, _⟩ := h; rfl) | (obtain ⟨_, _, _, _, _, _, _, _, _, rfl, _⟩ := h; rfl) | (obtain ⟨_, _, _, _, _, _, _, _, _, _, rfl, _⟩ := h; rfl) | (obtain ⟨_, _, _, _, _, _, _, _, _, _, _, rfl, _⟩ := h; rfl) | (obtain ⟨_, _, _, _, _, _, _, _, _, _, _, _, rfl, _⟩ := h; rfl)
  have nd := sc__law_tape.nd
  have hu := hu_of hr
  refine ⟨_, (pss_cons (ps_setLc (i := 2) (own := [("_law_cell", 1)]) (g := (gName 1)) (tt := tYes) (by rfl) nd rfl rfl (sw_true rfl rfl rfl (by decide +kernel)) (DL.pi_listK (K := K) rfl (pi_list (pv 0))) (blkOk_by (own := [("_law_cell", 1)]) (N := N__law_tape) (sc := defScope s__law_tape) (by decide +kernel)) (fun _ _ _ _ _ => (pg_name (i := 1) nd rfl (Or.inl rfl))) (fun _ _ _ _ _ => pts_nil) (fun _ _ _ _ _ => (pe_callB (call_abs) (by rfl) T.n_abs (by decide +kernel) (pa_cons (pe_callTy (call_int1) (by rfl) T.n_int (by decide +kernel) (pa_cons (pv 1) pa_nil)) pa_nil)))) (pss_cons (ps_set (i := 3) nd rfl (Or.inl rfl) pe_int) (pss_cons (ps_for PassesOwn.never rfl (DL.pi_listK (K := K) rfl (pi_list (pv 2))) (pg_name (i := 1) nd rfl (Or.inl rfl)) (pss_one (ps_set (i := 3) nd rfl (Or.inl rfl) (pe_op op_modN (pe_callTy (call_int1) (by rfl) T.n_int (by decide +kernel) (pa_cons (pe_op (DL.op_addK (K := K) rfl) (pe_op DL.op_mulU (pv 3) pe_int) (pv 1)) pa_nil)) pe_int)))) (pss_one (ps_ret (pe_disp (pps_cons pe_str (pv 2) (pps_cons pe_str pe_int (pps_cons pe_str pe_int (pps_cons pe_str (pv 3) (pps_cons pe_str pe_int pps_nil))))) (by rfl) (by rfl) (fun z => by cases z) (by decide))))))), ?_⟩
  intro dvs o R X h
  have st : ∀ z, dvs = z → startD N__law_tape.length dvs = startD 4 z := fun z e => by rw [e]; rfl
  obtain ⟨a, ns, rfl, rfl, hn, q⟩ := h
  rw [st _ rfl]; clear st; simp only [startD, toSl, List.map_cons, List.map_nil, List.length_cons, List.length_nil, List.cons_append, List.nil_append, List.append_nil, Nat.reduceAdd, Nat.reduceSub, List.reduceReplicate, Nat.zero_add, List.replicate_zero, Nat.sub_self]
  repeat array_get_dec
  refine xe_lcI (xe_vr rfl ⟨a, ns, rfl, rfl, noow_cons ⟨rfl, fun _ z => nomatch z⟩ noow_nil, fun k acc o => acc.length = k ∧ o = scriptOb K a ns ∧ ∃ cs : List Int, acc = cs.map .int ∧ ∀ n ∈ cs, 0 ≤ n, ⟨rfl, rfl, [], rfl, fun _ h => nomatch h⟩, ?_, ?_⟩)
  · rintro k n acc _ hk hl ⟨hlen, rfl, cs, rfl, hc⟩
    refine ⟨_, bt_name, ?_⟩
    unfold LcTurn
    repeat array_get_dec
    have hk := (List.getElem?_eq_some_iff.mp hk).1
    refine ⟨?_, by simpa using hlen, rfl, cs ++ [if n < 0 then -n else n], by simp, ?_⟩
    · rw [List.length_append]
      exact small1000 (show (List.map PyData.int cs).length + 1 ≤ 1000 by omega)
    · intro z hz
      rcases List.mem_append.mp hz with hz | hz
      · exact hc z hz
      · have : z = if n < 0 then -n else n := by simpa using hz
        rw [this]
        split <;> omega
  · rintro acc _ hl ⟨hlen, rfl, cs, rfl, hc⟩
    repeat array_get_dec
    refine xs_forL (xf_vf rfl ⟨_, rfl, fun k ρ' o' => ∃ (x : Sl) (s : Int), ρ' = [.raw (.ref a), x, .val (.list (cs.map .int)), .val (.int s)] ∧ o' = scriptOb K a ns ∧ 0 ≤ s ∧ s < 2147483647, ⟨_, _, rfl, rfl, by decide, by decide⟩, ?_, ?_⟩)
    · rintro k d ρ' o' hd ⟨x, s, rfl, rfl, h0, h1⟩
      obtain ⟨c, rfl⟩ : ∃ c, d = .int c := by
        rw [List.getElem?_map] at hd
        cases q : cs[k]? with
        | none => rw [q] at hd; cases hd
        | some c => rw [q] at hd; exact ⟨c, (Option.some.inj hd).symm⟩
      refine xg_nd ?_
      repeat array_get_dec
      refine xr_mulI (.inr ⟨by decide, by decide⟩) ?_
      repeat array_get_dec
      refine xr_fmod (by decide) ?_
      repeat array_get_dec
      have hm := Int.fmod_eq_emod_of_nonneg (s * 31 + c) (show (0 : Int) ≤ 2147483647 by decide)
      refine ⟨_, _, rfl, rfl, ?_, ?_⟩
      · rw [hm]; exact Int.emod_nonneg _ (by decide)
      · rw [hm]; exact Int.emod_lt_of_pos _ (by decide)
    · rintro ρ' o' ⟨x, s, rfl, rfl, h0, h1⟩
      repeat array_get_dec
      refine ⟨show 5 ≤ 15 by decide, ?_⟩
      repeat array_get_dec
      have e : mergeD [] [(Sum.inr "cells", PyData.list (cs.map .int)), (Sum.inr "at", .int 0), (Sum.inr "left", .int 0), (Sum.inr "seed", .int s), (Sum.inr "salt", .int 0)] = tapeKvs cs 0 0 s 0 := by with_unfolding_all rfl
      rw [e]
      exact q cs s hc h0 h1
theorem ok__law_is_integer (T : Txt K mg)  : FnOk P w K mg base CX0 1 T.a__law_is_integer T.fd__law_is_integer ["_law_actual"] (spD K (S__law_is_integer K)) := by
  refine fnD T.F__law_is_integer sc__law_is_integer ?len fun cdv A outer s H E hr => ?body
  case len => intro dvs o R X h; first | (obtain ⟨rfl, _⟩ := h; rfl) | (obtain ⟨_, rfl, _⟩ := h; rfl) | (obtain ⟨_, _, rfl, _⟩ := h; rfl) | (obtain ⟨_, _, _, rfl, _⟩ := h; rfl) | (obtain ⟨_, _, _, _, rfl, _⟩ := h; rfl) | (obtain ⟨_, _, _, _, _, rfl, _⟩ := h; rfl) | (obtain ⟨_, _, _, _, _, _, rfl, _⟩ := h; rfl) | (obtain ⟨_, _, _, _, _, _, _, rfl, _⟩ := h; rfl) | (obtain ⟨_, _, _, _, _, _, _, _, rfl, _⟩ := h; rfl) | (obtain ⟨_, _, _, _, _, _, _, _, _, rfl, _⟩ := h; rfl) | (obtain ⟨_, _, _, _, _, _, _, _, _, _, rfl, _⟩ := h; rfl) | (obtain ⟨_, _, _, _, _, _, _, _, _, _, _, rfl, _⟩ := h; rfl) | (obtain ⟨_, _, _, _, _, _, _, _, _, _, _, _, rfl, _⟩ := h; rfl)
  have nd := sc__law_is_integer.nd
  have hu := hu_of hr
  refine ⟨_, (pss_one (ps_ret (pe_and (pe_callB (DL.call_isiK (K := K) rfl) (by rfl) T.n_isinstance (by decide +kernel) (pa_cons (pv 0) (pa_cons (pe_bltn (v := .ty "int") (by rfl) T.n_int (by decide +kernel) rfl) pa_nil))) (pe_one (pe_not (pe_callB (DL.call_isiK (K := K) rfl) (by rfl) T.n_isinstance (by decide +kernel) (pa_cons (pv 0) (pa_cons (pe_bltn (v := .ty "bool") (by rfl) T.n_bool (by decide +kernel) rfl) pa_nil)))))))), ?_⟩
  intro dvs o R X h
  have st : ∀ z, dvs = z → startD N__law_is_integer.length dvs = startD 1 z := fun z e => by rw [e]; rfl
  obtain ⟨n, rfl, q⟩ := h
  rw [st _ rfl]; clear st; simp only [startD, toSl, List.map_cons, List.map_nil, List.length_cons, List.length_nil, List.cons_append, List.nil_append, List.append_nil, Nat.reduceAdd, Nat.reduceSub, List.reduceReplicate, Nat.zero_add, List.replicate_zero, Nat.sub_self]
  repeat array_get_dec
  exact q
theorem ok__law_same_items (T : Txt K mg) (n : Nat) (G__law_same : ∀ m, n = m + 1 → FnOk P w K mg base CX0 (2 * n) T.a__law_same T.fd__law_same ["_law_actual", "_law_expected"] (spD K (S__law_same m K))) :
    FnOk P w K mg base CX0 (2 * n + 1) T.a__law_same_items T.fd__law_same_items ["_law_actual", "_law_expected"] (spD K (S__law_same_items n K)) := by
  cases n with
  | zero => exact ⟨fun vs H Q E ⟨G, o, dvs, R, X, wd, a, ⟨m, d, ds, _, z, _⟩, q⟩ => (nomatch z), fun A outer s H args us vs Q E _ _ _ _ ⟨G, o, dvs, R, X, wd, a, ⟨m, d, ds, _, z, _⟩, q⟩ => nomatch z⟩
  | succ m =>
  have G__law_same := G__law_same m rfl
  refine fnD T.F__law_same_items sc__law_same_items ?len fun cdv A outer s H E hr => ?body
  case len => intro dvs o R X h; first | (obtain ⟨rfl, _⟩ := h; rfl) | (obtain ⟨_, rfl, _⟩ := h; rfl) | (obtain ⟨_, _, rfl, _⟩ := h; rfl) | (obtain ⟨_, _, _, rfl, _⟩ := h; rfl) | (obtain ⟨_, _, _, _, rfl, _⟩ := h; rfl) | (obtain ⟨_, _, _, _, _, rfl, _⟩ := h; rfl) | (obtain ⟨_, _, _, _, _, _, rfl, _⟩ := h; rfl) | (obtain ⟨_, _, _, _, _, _, _, rfl, _⟩ := h; rfl) | (obtain ⟨_, _, _, _, _, _, _, _, rfl, _⟩ := h; rfl) | (obtain ⟨_, _, _, _, _, _, _, _, _, rfl, _⟩ := h; rfl) | (obtain ⟨_, _, _, _, _, _, _, _, _, _, rfl, _⟩ := h; rfl) | (obtain ⟨_, _, _, _, _, _, _, _, _, _, _, rfl, _⟩ := h; rfl) | (obtain ⟨_, _, _, _, _, _, _, _, _, _, _, _, rfl, _⟩ := h; rfl)
  have nd := sc__law_same_items.nd
  have hu := hu_of hr
  refine ⟨_, (pss_cons (ps_if (pt_cmpR (DL.op_neK (K := K) rfl hr.units) (pe_callB (DL.call_lenK (K := K) rfl) (by rfl) T.n_len (by decide +kernel) (pa_cons (pv 0) pa_nil)) (pe_callB (DL.call_lenK (K := K) rfl) (by rfl) T.n_len (by decide +kernel) (pa_cons (pv 1) pa_nil)) (nomark _)) (pss_one (ps_ret pe_bl)) pss_nil) (pss_cons (ps_for PassesOwn.never rfl (pi_range1 (by rfl) T.n_range (pa_cons (pe_callB (DL.call_lenK (K := K) rfl) (by rfl) T.n_len (by decide +kernel) (pa_cons (pv 1) pa_nil)) pa_nil)) (pg_name (i := 2) nd rfl (Or.inl rfl)) (pss_one (ps_if (pt_not (pt_val (pe_call G__law_same (hr.mono (by first | decide | omega)) (by rfl) T.g__law_same T.F__law_same.kp T.b__law_same .nil pass0 (pa_cons (pe_ix (DL.ix_K (K := K) rfl) (pv 0) (pv 2) (fun _ _ => rfl)) (pa_cons (pe_ix (DL.ix_K (K := K) rfl) (pv 1) (pv 2) (fun _ _ => rfl)) pa_nil))))) (pss_one (ps_ret pe_bl)) pss_nil))) (pss_one (ps_ret pe_bl)))), ?_⟩
  intro dvs o R X h
  have st : ∀ z, dvs = z → startD N__law_same_items.length dvs = startD 3 z := fun z e => by rw [e]; rfl
  obtain ⟨m', d, ds, rfl, hm, hd, hl, hs, q⟩ := h
  cases hm
  rw [st _ rfl]; clear st; simp only [startD, toSl, List.map_cons, List.map_nil, List.length_cons, List.length_nil, List.cons_append, List.nil_append, List.append_nil, Nat.reduceAdd, Nat.reduceSub, List.reduceReplicate, Nat.zero_add, List.replicate_zero, Nat.sub_self]
  repeat array_get_dec
  refine xc_lenQ hd ?_
  repeat array_get_dec
  refine xc_lenQ hd ?_
  repeat array_get_dec
  refine bs_nd (fun h => absurd rfl h) fun _ => ?_
  repeat array_get_dec
  refine xs_forR1 (xa_cons (xe_cb (xa_cons (xe_vd rfl (xa_nil ⟨trivial, xc_lenQ hd ?_⟩)))))
  repeat array_get_dec
  refine ⟨by omega, by omega, fun k ρ' o' => o' = o ∧ ∃ x, ρ' = [.val d, .val d, x], ⟨rfl, _, rfl⟩, ?_, ?_⟩
  · rintro k ρ' o' hk ⟨rfl, x, rfl⟩
    refine xg_nd ?_
    have hk : k < ds.length := by omega
    have at_k : atI ds (0 + (k : Int)) = some ds[k] := atD_of (j := k) (show (0 : Int) + (k : Int) = (k : Int) by omega) (List.getElem?_eq_getElem hk)
    repeat array_get_dec
    refine xr_ixQ hd at_k ?_
    repeat array_get_dec
    refine xr_ixQ hd at_k ?_
    repeat array_get_dec
    refine ⟨ds[k], rfl, hs _ (List.getElem_mem _), ?_⟩
    repeat array_get_dec
    exact ⟨_, rfl⟩
  · rintro ρ' o' ⟨rfl, x, rfl⟩
    repeat array_get_dec
    exact q
theorem ok__law_same (T : Txt K mg) (n : Nat) (G__law_is_integer : FnOk P w K mg base CX0 1 T.a__law_is_integer T.fd__law_is_integer ["_law_actual"] (spD K (S__law_is_integer K)))
    (G__law_same_items : FnOk P w K mg base CX0 (2 * n + 1) T.a__law_same_items T.fd__law_same_items ["_law_actual", "_law_expected"] (spD K (S__law_same_items n K))) :
    FnOk P w K mg base CX0 (2 * n + 2) T.a__law_same T.fd__law_same ["_law_actual", "_law_expected"] (spD K (S__law_same n K)) := by
  have G__law_same : FnOk P w K mg base CX0 (2 * n + 1) T.a__law_same T.fd__law_same ["_law_actual", "_law_expected"] (spD K (S_never K)) := never_ok
  refine fnD T.F__law_same sc__law_same ?len fun cdv A outer s H E hr => ?body
  case len => intro dvs o R X h; first | (obtain ⟨rfl, _⟩ := h; rfl) | (obtain ⟨_, rfl, _⟩ := h; rfl) | (obtain ⟨_, _, rfl, _⟩ := h; rfl) | (obtain ⟨_, _, _, rfl, _⟩ := h; rfl) | (obtain ⟨_, _, _, _, rfl, _⟩ := h; rfl) | (obtain ⟨_, _, _, _, _, rfl, _⟩ := h; rfl) | (obtain ⟨_, _, _, _, _, _, rfl, _⟩ := h; rfl) | (obtain ⟨_, _, _, _, _, _, _, rfl, _⟩ := h; rfl) | (obtain ⟨_, _, _, _, _, _, _, _, rfl, _⟩ := h; rfl) | (obtain ⟨_, _, _, _, _, _, _, _, _, rfl, _⟩ := h; rfl) | (obtain ⟨_, _, _, _, _, _, _, _, _, _, rfl, _⟩ := h; rfl) | (obtain ⟨_, _, _, _, _, _, _, _, _, _, _, rfl, _⟩ := h; rfl) | (obtain ⟨_, _, _, _, _, _, _, _, _, _, _, _, rfl, _⟩ := h; rfl)
  have nd := sc__law_same.nd
  have hu := hu_of hr
  refine ⟨_, (pss_cons (ps_if (pt_cmpR op_isN (pv 1) pe_non (nomark _)) (pss_one (ps_ret (pe_cmpR op_isN (pv 0) pe_non (nomark _)))) pss_nil) (pss_cons (ps_if (pt_val (pe_callB (DL.call_isiK (K := K) rfl) (by rfl) T.n_isinstance (by decide +kernel) (pa_cons (pv 1) (pa_cons (pe_bltn (v := .ty "bool") (by rfl) T.n_bool (by decide +kernel) rfl) pa_nil)))) (pss_one (ps_ret (pe_and (pe_callB (DL.call_isiK (K := K) rfl) (by rfl) T.n_isinstance (by decide +kernel) (pa_cons (pv 0) (pa_cons (pe_bltn (v := .ty "bool") (by rfl) T.n_bool (by decide +kernel) rfl) pa_nil))) (pe_one (pe_cmpR (DL.op_eqK (K := K) rfl hr.units) (pv 0) (pv 1) (nomark _)))))) pss_nil) (pss_cons (ps_if (pt_val (pe_callB (DL.call_isiK (K := K) rfl) (by rfl) T.n_isinstance (by decide +kernel) (pa_cons (pv 1) (pa_cons (pe_bltn (v := .ty "int") (by rfl) T.n_int (by decide +kernel) rfl) pa_nil)))) (pss_one (ps_ret (pe_and (pe_call G__law_is_integer (hr.mono (by first | decide | omega)) (by rfl) T.g__law_is_integer T.F__law_is_integer.kp T.b__law_is_integer .nil pass0 (pa_cons (pv 0) pa_nil)) (pe_one (pe_cmpR (DL.op_eqK (K := K) rfl hr.units) (pv 0) (pv 1) (nomark _)))))) pss_nil) (pss_cons (ps_if (pt_val (pe_callB (DL.call_isiK (K := K) rfl) (by rfl) T.n_isinstance (by decide +kernel) (pa_cons (pv 1) (pa_cons (pe_bltn (v := .ty "str") (by rfl) T.n_str (by decide +kernel) rfl) pa_nil)))) (pss_one (ps_ret (pe_and (pe_callB (DL.call_isiK (K := K) rfl) (by rfl) T.n_isinstance (by decide +kernel) (pa_cons (pv 0) (pa_cons (pe_bltn (v := .ty "str") (by rfl) T.n_str (by decide +kernel) rfl) pa_nil))) (pe_one (pe_cmpR (DL.op_eqK (K := K) rfl hr.units) (pv 0) (pv 1) (nomark _)))))) pss_nil) (pss_cons (ps_if (pt_val (pe_callB (DL.call_isiK (K := K) rfl) (by rfl) T.n_isinstance (by decide +kernel) (pa_cons (pv 1) (pa_cons (pe_bltn (v := .ty "tuple") (by rfl) T.n_tuple (by decide +kernel) rfl) pa_nil)))) (pss_one (ps_ret (pe_and (pe_callB (DL.call_isiK (K := K) rfl) (by rfl) T.n_isinstance (by decide +kernel) (pa_cons (pv 0) (pa_cons (pe_bltn (v := .ty "tuple") (by rfl) T.n_tuple (by decide +kernel) rfl) pa_nil))) (pe_one (pe_call G__law_same_items (hr.mono (by first | decide | omega)) (by rfl) T.g__law_same_items T.F__law_same_items.kp T.b__law_same_items .nil pass0 (pa_cons (pv 0) (pa_cons (pv 1) pa_nil))))))) pss_nil) (pss_cons (ps_if (pt_val (pe_callB (DL.call_isiK (K := K) rfl) (by rfl) T.n_isinstance (by decide +kernel) (pa_cons (pv 1) (pa_cons (pe_bltn (v := .ty "list") (by rfl) T.n_list (by decide +kernel) rfl) pa_nil)))) (pss_one (ps_ret (pe_and (pe_callB (DL.call_isiK (K := K) rfl) (by rfl) T.n_isinstance (by decide +kernel) (pa_cons (pv 0) (pa_cons (pe_bltn (v := .ty "list") (by rfl) T.n_list (by decide +kernel) rfl) pa_nil))) (pe_one (pe_call G__law_same_items (hr.mono (by first | decide | omega)) (by rfl) T.g__law_same_items T.F__law_same_items.kp T.b__law_same_items .nil pass0 (pa_cons (pv 0) (pa_cons (pv 1) pa_nil))))))) pss_nil) (pss_cons (ps_if (PW.pt (pw_or (pt_not (pt_val (pe_callB (DL.call_isiK (K := K) rfl) (by rfl) T.n_isinstance (by decide +kernel) (pa_cons (pv 0) (pa_cons (pe_bltn (v := .ty "dict") (by rfl) T.n_dict (by decide +kernel) rfl) pa_nil))))) (pw_or1 (pt_cmpR (DL.op_neK (K := K) rfl hr.units) (pe_callB (DL.call_lenK (K := K) rfl) (by rfl) T.n_len (by decide +kernel) (pa_cons (pv 0) pa_nil)) (pe_callB (DL.call_lenK (K := K) rfl) (by rfl) T.n_len (by decide +kernel) (pa_cons (pv 1) pa_nil)) (nomark _))))) (pss_one (ps_ret pe_bl)) pss_nil) (pss_cons (ps_for PassesOwn.never rfl (DL.pi_listK (K := K) rfl (pi_list (pv 1))) (pg_name (i := 2) nd rfl (Or.inl rfl)) (pss_one (ps_if (PW.pt (pw_or (pt_cmpR (DL.op_notInK (K := K) rfl) (pv 2) (pv 0) (by rfl)) (pw_or1 (pt_not (pt_val (pe_call G__law_same (hr.mono (by first | decide | omega)) (by rfl) T.g__law_same T.F__law_same.kp T.b__law_same .nil pass0 (pa_cons (pe_ix (DL.ix_K (K := K) rfl) (pv 0) (pv 2) (fun _ _ => rfl)) (pa_cons (pe_ix (DL.ix_K (K := K) rfl) (pv 1) (pv 2) (fun _ _ => rfl)) pa_nil)))))))) (pss_one (ps_ret pe_bl)) pss_nil))) (pss_cons (ps_for PassesOwn.never rfl (DL.pi_listK (K := K) rfl (pi_list (pv 0))) (pg_name (i := 2) nd rfl (Or.inl rfl)) (pss_one (ps_if (pt_val (pe_callB (DL.call_isiK (K := K) rfl) (by rfl) T.n_isinstance (by decide +kernel) (pa_cons (pv 2) (pa_cons (pe_bltn (v := .ty "bool") (by rfl) T.n_bool (by decide +kernel) rfl) pa_nil)))) (pss_one (ps_ret pe_bl)) pss_nil))) (pss_one (ps_ret pe_bl))))))))))), ?_⟩
  intro dvs o R X h
  have st : ∀ z, dvs = z → startD N__law_same.length dvs = startD 3 z := fun z e => by rw [e]; rfl
  obtain ⟨d, rfl, sm, q⟩ := h
  rw [st _ rfl]; clear st; simp only [startD, toSl, List.map_cons, List.map_nil, List.length_cons, List.length_nil, List.cons_append, List.nil_append, List.append_nil, Nat.reduceAdd, Nat.reduceSub, List.reduceReplicate, Nat.zero_add, List.replicate_zero, Nat.sub_self]
  cases sm with
  | non =>
    repeat array_get_dec
    exact q
  | bl =>
    repeat array_get_dec
    simpa using q
  | int =>
    repeat array_get_dec
    refine ⟨_, rfl, ?_⟩
    repeat array_get_dec
    simpa using q
  | str =>
    repeat array_get_dec
    simpa using q
  | @tup m ds l h =>
    repeat array_get_dec
    exact ⟨m, .tuple ds, ds, rfl, rfl, .inl rfl, l, h, q⟩
  | @lst m ds l h =>
    repeat array_get_dec
    exact ⟨m, .list ds, ds, rfl, rfl, .inr rfl, l, h, q⟩
theorem same_all (T : Txt K mg) (n : Nat) : FnOk P w K mg base CX0 (2 * n + 2) T.a__law_same T.fd__law_same ["_law_actual", "_law_expected"] (spD K (S__law_same n K)) := by
  have Gi : FnOk P w K mg base CX0 1 T.a__law_is_integer T.fd__law_is_integer ["_law_actual"] (spD K (S__law_is_integer K)) := ok__law_is_integer T
  induction n with
  | zero => exact ok__law_same T 0 Gi (ok__law_same_items T 0 fun m h => nomatch h)
  | succ n ih => exact ok__law_same T (n + 1) Gi (ok__law_same_items T (n + 1) fun m h => by
      cases h
      exact ih)
end

section
variable {P : Program} {w : World} {K : PySem.W.Frag} {mg : Str → Option Value} {base : Heap}
theorem hk__law_is_integer (T : Txt K mg)  : L2H.FnH P w K mg base CX0 1 T.a__law_is_integer T.fd__law_is_integer ["_law_actual"] (spD K (S__law_is_integer K)) := by
  refine fnDH T.F__law_is_integer sc__law_is_integer ?len fun cdv A outer s H E p hot hr => ?body
  case len => intro dvs o R X h; first | (obtain ⟨rfl, _⟩ := h; rfl) | (obtain ⟨_, rfl, _⟩ := h; rfl) | (obtain ⟨_, _, rfl, _⟩ := h; rfl) | (obtain ⟨_, _, _, rfl, _⟩ := h; rfl) | (obtain ⟨_, _, _, _, rfl, _⟩ := h; rfl) | (obtain ⟨_, _, _, _, _, rfl, _⟩ := h; rfl) | (obtain ⟨_, _, _, _, _, _, rfl, _⟩ := h; rfl) | (obtain ⟨_, _, _, _, _, _, _, rfl, _⟩ := h; rfl) | (obtain ⟨_, _, _, _, _, _, _, _, rfl, _⟩ := h; rfl) | (obtain ⟨_, _, _, _, _, _, _, _, _, rfl, _⟩ := h; rfl) | (obtain ⟨_, _, _, _, _, _, _, _, _, _, rfl, _⟩ := h; rfl) | (obtain ⟨_, _, _, _, _, _, _, _, _, _, _, rfl, _⟩ := h; rfl) | (obtain ⟨_, _, _, _, _, _, _, _, _, _, _, _, rfl, _⟩ := h; rfl)
  have nd := sc__law_is_integer.nd
  have hu := DL.hu_ofH hr
  have hc := DL.hot_cx (CX := CX0) (P := P) (w := w) (K := K) (mg := mg) (base := base) (N := N__law_is_integer) (qual := "_law_is_integer") (scope := defScope s__law_is_integer) (f := T.a__law_is_integer) (cd := cdv) (A := A) (outer := outer) (s := s) (H := H) (E := E) hot
  refine ⟨_, (pss_one (ps_ret (pe_and (pe_callB (DL.call_isiK (K := K) rfl) (by rfl) T.n_isinstance (by decide +kernel) (pa_cons (pv 0) (pa_cons (pe_bltn (v := .ty "int") (by rfl) T.n_int (by decide +kernel) rfl) pa_nil))) (pe_one (pe_not (pe_callB (DL.call_isiK (K := K) rfl) (by rfl) T.n_isinstance (by decide +kernel) (pa_cons (pv 0) (pa_cons (pe_bltn (v := .ty "bool") (by rfl) T.n_bool (by decide +kernel) rfl) pa_nil)))))))), ?_⟩
  intro dvs o R X h
  have st : ∀ z, dvs = z → startD N__law_is_integer.length dvs = startD 1 z := fun z e => by rw [e]; rfl
  obtain ⟨n, rfl, q⟩ := h
  rw [st _ rfl]; clear st; simp only [startD, toSl, List.map_cons, List.map_nil, List.length_cons, List.length_nil, List.cons_append, List.nil_append, List.append_nil, Nat.reduceAdd, Nat.reduceSub, List.reduceReplicate, Nat.zero_add, List.replicate_zero, Nat.sub_self]
  repeat array_get_dec
  exact q
theorem hk__law_same_items (T : Txt K mg) (n : Nat) (H__law_same : ∀ m, n = m + 1 → L2H.FnH P w K mg base CX0 (2 * n) T.a__law_same T.fd__law_same ["_law_actual", "_law_expected"] (spD K (S__law_same m K))) :
    L2H.FnH P w K mg base CX0 (2 * n + 1) T.a__law_same_items T.fd__law_same_items ["_law_actual", "_law_expected"] (spD K (S__law_same_items n K)) := by
  cases n with
  | zero => exact ⟨fun vs H Q E ⟨G, o, dvs, R, X, wd, a, ⟨m, d, ds, _, z, _⟩, q⟩ => (nomatch z), fun A outer s H args us vs Q E p _ _ _ _ _ _ ⟨G, o, dvs, R, X, wd, a, ⟨m, d, ds, _, z, _⟩, q⟩ => nomatch z⟩
  | succ m =>
  have H__law_same := H__law_same m rfl
  refine fnDH T.F__law_same_items sc__law_same_items ?len fun cdv A outer s H E p hot hr => ?body
  case len => intro dvs o R X h; first | (obtain ⟨rfl, _⟩ := h; rfl) | (obtain ⟨_, rfl, _⟩ := h; rfl) | (obtain ⟨_, _, rfl, _⟩ := h; rfl) | (obtain ⟨_, _, _, rfl, _⟩ := h; rfl) | (obtain ⟨_, _, _, _, rfl, _⟩ := h; rfl) | (obtain ⟨_, _, _, _, _, rfl, _⟩ := h; rfl) | (obtain ⟨_, _, _, _, _, _, rfl, _⟩ := h; rfl) | (obtain ⟨_, _, _, _, _, _, _, rfl, _⟩ := h; rfl) | (obtain ⟨_, _, _, _, _, _, _, _, rfl, _⟩ := h; rfl) | (obtain ⟨_, _, _, _, _, _, _, _, _, rfl, _⟩ := h; rfl) | (obtain ⟨_, _, _, _, _, _, _, _, _, _, rfl, _⟩ := h; rfl) | (obtain ⟨_, _, _, _, _, _, _, _, _, _, _, rfl, _⟩ := h; rfl) | (obtain ⟨_, _, _, _, _, _, _, _, _, _, _, _, rfl, _⟩ := h; rfl)
  have nd := sc__law_same_items.nd
  have hu := DL.hu_ofH hr
  have hc := DL.hot_cx (CX := CX0) (P := P) (w := w) (K := K) (mg := mg) (base := base) (N := N__law_same_items) (qual := "_law_same_items") (scope := defScope s__law_same_items) (f := T.a__law_same_items) (cd := cdv) (A := A) (outer := outer) (s := s) (H := H) (E := E) hot
  refine ⟨_, (pss_cons (ps_if (pt_cmpR (DL.op_neK (K := K) rfl hr.units) (pe_callB (DL.call_lenK (K := K) rfl) (by rfl) T.n_len (by decide +kernel) (pa_cons (pv 0) pa_nil)) (pe_callB (DL.call_lenK (K := K) rfl) (by rfl) T.n_len (by decide +kernel) (pa_cons (pv 1) pa_nil)) (nomark _)) (pss_one (ps_ret pe_bl)) pss_nil) (pss_cons (L2H.ps_forH PassesOwn.never hc (L2H.pi_range1H (by rfl) T.n_range (pa_cons (pe_callB (DL.call_lenK (K := K) rfl) (by rfl) T.n_len (by decide +kernel) (pa_cons (pv 1) pa_nil)) pa_nil)) (pg_name (i := 2) nd rfl (Or.inl rfl)) (pss_one (ps_if (pt_not (pt_val (L2H.pe_callH (E := fun _ => E0) H__law_same (hr.mono (by first | decide | omega)) hc (by rfl) T.g__law_same T.F__law_same.kp T.b__law_same (fun _ => DL.passH) (pa_cons (pe_ix (DL.ix_K (K := K) rfl) (pv 0) (pv 2) (fun _ _ => rfl)) (pa_cons (pe_ix (DL.ix_K (K := K) rfl) (pv 1) (pv 2) (fun _ _ => rfl)) pa_nil))))) (pss_one (ps_ret pe_bl)) pss_nil))) (pss_one (ps_ret pe_bl)))), ?_⟩
  intro dvs o R X h
  have st : ∀ z, dvs = z → startD N__law_same_items.length dvs = startD 3 z := fun z e => by rw [e]; rfl
  obtain ⟨m', d, ds, rfl, hm, hd, hl, hs, q⟩ := h
  cases hm
  rw [st _ rfl]; clear st; simp only [startD, toSl, List.map_cons, List.map_nil, List.length_cons, List.length_nil, List.cons_append, List.nil_append, List.append_nil, Nat.reduceAdd, Nat.reduceSub, List.reduceReplicate, Nat.zero_add, List.replicate_zero, Nat.sub_self]
  repeat array_get_dec
  refine xc_lenQ hd ?_
  repeat array_get_dec
  refine xc_lenQ hd ?_
  repeat array_get_dec
  refine bs_nd (fun h => absurd rfl h) fun _ => ?_
  repeat array_get_dec
  refine xs_forR1 (xa_cons (xe_cb (xa_cons (xe_vd rfl (xa_nil ⟨trivial, xc_lenQ hd ?_⟩)))))
  repeat array_get_dec
  refine ⟨by omega, by omega, fun k ρ' o' => o' = o ∧ ∃ x, ρ' = [.val d, .val d, x], ⟨rfl, _, rfl⟩, ?_, ?_⟩
  · rintro k ρ' o' hk ⟨rfl, x, rfl⟩
    refine xg_nd ?_
    have hk : k < ds.length := by omega
    have at_k : atI ds (0 + (k : Int)) = some ds[k] := atD_of (j := k) (show (0 : Int) + (k : Int) = (k : Int) by omega) (List.getElem?_eq_getElem hk)
    repeat array_get_dec
    refine xr_ixQ hd at_k ?_
    repeat array_get_dec
    refine xr_ixQ hd at_k ?_
    repeat array_get_dec
    refine ⟨ds[k], rfl, hs _ (List.getElem_mem _), ?_⟩
    repeat array_get_dec
    exact ⟨_, rfl⟩
  · rintro ρ' o' ⟨rfl, x, rfl⟩
    repeat array_get_dec
    exact q
theorem hk__law_same (T : Txt K mg) (n : Nat) (H__law_is_integer : L2H.FnH P w K mg base CX0 1 T.a__law_is_integer T.fd__law_is_integer ["_law_actual"] (spD K (S__law_is_integer K)))
    (H__law_same_items : L2H.FnH P w K mg base CX0 (2 * n + 1) T.a__law_same_items T.fd__law_same_items ["_law_actual", "_law_expected"] (spD K (S__law_same_items n K))) :
    L2H.FnH P w K mg base CX0 (2 * n + 2) T.a__law_same T.fd__law_same ["_law_actual", "_law_expected"] (spD K (S__law_same n K)) := by
  have H__law_same : L2H.FnH P w K mg base CX0 (2 * n + 1) T.a__law_same T.fd__law_same ["_law_actual", "_law_expected"] (spD K (S_never K)) := never_okH
  refine fnDH T.F__law_same sc__law_same ?len fun cdv A outer s H E p hot hr => ?body
  case len => intro dvs o R X h; first | (obtain ⟨rfl, _⟩ := h; rfl) | (obtain ⟨_, rfl, _⟩ := h; rfl) | (obtain ⟨_, _, rfl, _⟩ := h; rfl) | (obtain ⟨_, _, _, rfl, _⟩ := h; rfl) | (obtain ⟨_, _, _, _, rfl, _⟩ := h; rfl) | (obtain ⟨_, _, _, _, _, rfl, _⟩ := h; rfl) | (obtain ⟨_, _, _, _, _, _, rfl, _⟩ := h; rfl) | (obtain ⟨_, _, _, _, _, _, _, rfl, _⟩ := h; rfl) | (obtain ⟨_, _, _, _, _, _, _, _, rfl, _⟩ := h; rfl) | (obtain ⟨_, _, _, _, _, _, _, _, _, rfl, _⟩ := h; rfl) | (obtain ⟨_, _, _, _, _, _, _, _, _, _, rfl, _⟩ := h; rfl) | (obtain ⟨_, _, _, _, _, _, _, _, _, _, _, rfl, _⟩ := h; rfl) | (obtain ⟨_, _, _, _, _, _, _, _, _, _, _, _, rfl, _⟩ := h; rfl)
  have nd := sc__law_same.nd
  have hu := DL.hu_ofH hr
  have hc := DL.hot_cx (CX := CX0) (P := P) (w := w) (K := K) (mg := mg) (base := base) (N := N__law_same) (qual := "_law_same") (scope := defScope s__law_same) (f := T.a__law_same) (cd := cdv) (A := A) (outer := outer) (s := s) (H := H) (E := E) hot
  refine ⟨_, (pss_cons (ps_if (pt_cmpR op_isN (pv 1) pe_non (nomark _)) (pss_one (ps_ret (pe_cmpR op_isN (pv 0) pe_non (nomark _)))) pss_nil) (pss_cons (ps_if (pt_val (pe_callB (DL.call_isiK (K := K) rfl) (by rfl) T.n_isinstance (by decide +kernel) (pa_cons (pv 1) (pa_cons (pe_bltn (v := .ty "bool") (by rfl) T.n_bool (by decide +kernel) rfl) pa_nil)))) (pss_one (ps_ret (pe_and (pe_callB (DL.call_isiK (K := K) rfl) (by rfl) T.n_isinstance (by decide +kernel) (pa_cons (pv 0) (pa_cons (pe_bltn (v := .ty "bool") (by rfl) T.n_bool (by decide +kernel) rfl) pa_nil))) (pe_one (pe_cmpR (DL.op_eqK (K := K) rfl hr.units) (pv 0) (pv 1) (nomark _)))))) pss_nil) (pss_cons (ps_if (pt_val (pe_callB (DL.call_isiK (K := K) rfl) (by rfl) T.n_isinstance (by decide +kernel) (pa_cons (pv 1) (pa_cons (pe_bltn (v := .ty "int") (by rfl) T.n_int (by decide +kernel) rfl) pa_nil)))) (pss_one (ps_ret (pe_and (L2H.pe_callH (E := fun _ => E0) H__law_is_integer (hr.mono (by first | decide | omega)) hc (by rfl) T.g__law_is_integer T.F__law_is_integer.kp T.b__law_is_integer (fun _ => DL.passH) (pa_cons (pv 0) pa_nil)) (pe_one (pe_cmpR (DL.op_eqK (K := K) rfl hr.units) (pv 0) (pv 1) (nomark _)))))) pss_nil) (pss_cons (ps_if (pt_val (pe_callB (DL.call_isiK (K := K) rfl) (by rfl) T.n_isinstance (by decide +kernel) (pa_cons (pv 1) (pa_cons (pe_bltn (v := .ty "str") (by rfl) T.n_str (by decide +kernel) rfl) pa_nil)))) (pss_one (ps_ret (pe_and (pe_callB (DL.call_isiK (K := K) rfl) (by rfl) T.n_isinstance (by decide +kernel) (pa_cons (pv 0) (pa_cons (pe_bltn (v := .ty "str") (by rfl) T.n_str (by decide +kernel) rfl) pa_nil))) (pe_one (pe_cmpR (DL.op_eqK (K := K) rfl hr.units) (pv 0) (pv 1) (nomark _)))))) pss_nil) (pss_cons (ps_if (pt_val (pe_callB (DL.call_isiK (K := K) rfl) (by rfl) T.n_isinstance (by decide +kernel) (pa_cons (pv 1) (pa_cons (pe_bltn (v := .ty "tuple") (by rfl) T.n_tuple (by decide +kernel) rfl) pa_nil)))) (pss_one (ps_ret (pe_and (pe_callB (DL.call_isiK (K := K) rfl) (by rfl) T.n_isinstance (by decide +kernel) (pa_cons (pv 0) (pa_cons (pe_bltn (v := .ty "tuple") (by rfl) T.n_tuple (by decide +kernel) rfl) pa_nil))) (pe_one (L2H.pe_callH (E := fun _ => E0) H__law_same_items (hr.mono (by first | decide | omega)) hc (by rfl) T.g__law_same_items T.F__law_same_items.kp T.b__law_same_items (fun _ => DL.passH) (pa_cons (pv 0) (pa_cons (pv 1) pa_nil))))))) pss_nil) (pss_cons (ps_if (pt_val (pe_callB (DL.call_isiK (K := K) rfl) (by rfl) T.n_isinstance (by decide +kernel) (pa_cons (pv 1) (pa_cons (pe_bltn (v := .ty "list") (by rfl) T.n_list (by decide +kernel) rfl) pa_nil)))) (pss_one (ps_ret (pe_and (pe_callB (DL.call_isiK (K := K) rfl) (by rfl) T.n_isinstance (by decide +kernel) (pa_cons (pv 0) (pa_cons (pe_bltn (v := .ty "list") (by rfl) T.n_list (by decide +kernel) rfl) pa_nil))) (pe_one (L2H.pe_callH (E := fun _ => E0) H__law_same_items (hr.mono (by first | decide | omega)) hc (by rfl) T.g__law_same_items T.F__law_same_items.kp T.b__law_same_items (fun _ => DL.passH) (pa_cons (pv 0) (pa_cons (pv 1) pa_nil))))))) pss_nil) (pss_cons (ps_if (PW.pt (pw_or (pt_not (pt_val (pe_callB (DL.call_isiK (K := K) rfl) (by rfl) T.n_isinstance (by decide +kernel) (pa_cons (pv 0) (pa_cons (pe_bltn (v := .ty "dict") (by rfl) T.n_dict (by decide +kernel) rfl) pa_nil))))) (pw_or1 (pt_cmpR (DL.op_neK (K := K) rfl hr.units) (pe_callB (DL.call_lenK (K := K) rfl) (by rfl) T.n_len (by decide +kernel) (pa_cons (pv 0) pa_nil)) (pe_callB (DL.call_lenK (K := K) rfl) (by rfl) T.n_len (by decide +kernel) (pa_cons (pv 1) pa_nil)) (nomark _))))) (pss_one (ps_ret pe_bl)) pss_nil) (pss_cons (L2H.ps_forH PassesOwn.never hc (DL.pi_listH (K := K) rfl (pv 1)) (pg_name (i := 2) nd rfl (Or.inl rfl)) (pss_one (ps_if (PW.pt (pw_or (pt_cmpR (DL.op_notInK (K := K) rfl) (pv 2) (pv 0) (by rfl)) (pw_or1 (pt_not (pt_val (L2H.pe_callH (E := fun _ => E0) H__law_same (hr.mono (by first | decide | omega)) hc (by rfl) T.g__law_same T.F__law_same.kp T.b__law_same (fun _ => DL.passH) (pa_cons (pe_ix (DL.ix_K (K := K) rfl) (pv 0) (pv 2) (fun _ _ => rfl)) (pa_cons (pe_ix (DL.ix_K (K := K) rfl) (pv 1) (pv 2) (fun _ _ => rfl)) pa_nil)))))))) (pss_one (ps_ret pe_bl)) pss_nil))) (pss_cons (L2H.ps_forH PassesOwn.never hc (DL.pi_listH (K := K) rfl (pv 0)) (pg_name (i := 2) nd rfl (Or.inl rfl)) (pss_one (ps_if (pt_val (pe_callB (DL.call_isiK (K := K) rfl) (by rfl) T.n_isinstance (by decide +kernel) (pa_cons (pv 2) (pa_cons (pe_bltn (v := .ty "bool") (by rfl) T.n_bool (by decide +kernel) rfl) pa_nil)))) (pss_one (ps_ret pe_bl)) pss_nil))) (pss_one (ps_ret pe_bl))))))))))), ?_⟩
  intro dvs o R X h
  have st : ∀ z, dvs = z → startD N__law_same.length dvs = startD 3 z := fun z e => by rw [e]; rfl
  obtain ⟨d, rfl, sm, q⟩ := h
  rw [st _ rfl]; clear st; simp only [startD, toSl, List.map_cons, List.map_nil, List.length_cons, List.length_nil, List.cons_append, List.nil_append, List.append_nil, Nat.reduceAdd, Nat.reduceSub, List.reduceReplicate, Nat.zero_add, List.replicate_zero, Nat.sub_self]
  cases sm with
  | non =>
    repeat array_get_dec
    exact q
  | bl =>
    repeat array_get_dec
    simpa using q
  | int =>
    repeat array_get_dec
    refine ⟨_, rfl, ?_⟩
    repeat array_get_dec
    simpa using q
  | str =>
    repeat array_get_dec
    simpa using q
  | @tup m ds l h =>
    repeat array_get_dec
    exact ⟨m, .tuple ds, ds, rfl, rfl, .inl rfl, l, h, q⟩
  | @lst m ds l h =>
    repeat array_get_dec
    exact ⟨m, .list ds, ds, rfl, rfl, .inr rfl, l, h, q⟩
theorem same_allH (T : Txt K mg) (n : Nat) : L2H.FnH P w K mg base CX0 (2 * n + 2) T.a__law_same T.fd__law_same ["_law_actual", "_law_expected"] (spD K (S__law_same n K)) := by
  have Gi : L2H.FnH P w K mg base CX0 1 T.a__law_is_integer T.fd__law_is_integer ["_law_actual"] (spD K (S__law_is_integer K)) := hk__law_is_integer T
  induction n with
  | zero => exact hk__law_same T 0 Gi (hk__law_same_items T 0 fun m h => nomatch h)
  | succ n ih => exact hk__law_same T (n + 1) Gi (hk__law_same_items T (n + 1) fun m h => by
      cases h
      exact ih)

theorem ok_run_end (T : Txt K mg)  : FnOk P w K mg base CX0 1 T.a_run_end T.fd_run_end ["text", "start", "allowed"] (spD K (S_run_end K)) := by
  refine fnD T.F_run_end sc_run_end ?len fun cdv A outer s H E hr => ?body
  case len => intro dvs o R X h; first | (obtain ⟨rfl, _⟩ := h; rfl) | (obtain ⟨_, rfl, _⟩ := h; rfl) | (obtain ⟨_, _, rfl, _⟩ := h; rfl) | (obtain ⟨_, _, _, rfl, _⟩ := h; rfl) | (obtain ⟨_, _, _, _, rfl, _⟩ := h; rfl) | (obtain ⟨_, _, _, _, _, rfl, _⟩ := h; rfl) | (obtain ⟨_, _, _, _, _, _, rfl, _⟩ := h; rfl) | (obtain ⟨_, _, _, _, _, _, _, rfl, _⟩ := h; rfl) | (obtain ⟨_, _, _, _, _, _, _, _, rfl, _⟩ := h; rfl) | (obtain ⟨_, _, _, _, _, _, _, _, _, rfl, _⟩ := h; rfl) | (obtain ⟨_, _, _, _, _, _, _, _, _, _, rfl, _⟩ := h; rfl) | (obtain ⟨_, _, _, _, _, _, _, _, _, _, _, rfl, _⟩ := h; rfl) | (obtain ⟨_, _, _, _, _, _, _, _, _, _, _, _, rfl, _⟩ := h; rfl)
  have nd := sc_run_end.nd
  have hu := hu_of hr
  refine ⟨_, (pss_cons (ps_set (i := 3) nd rfl (Or.inl rfl) (pv 1)) (pss_cons (ps_while PassesOwn.never (PW.pt (pw_and (pt_cmpR (DL.op_ltU) (pv 3) (pe_callB (DL.call_lenK (K := K) rfl) (by rfl) T.n_len (by decide +kernel) (pa_cons (pv 0) pa_nil)) (nomark _)) (pw_and1 (pt_cmpR (DL.op_inK (K := K) rfl) (pe_ix (DL.ix_K (K := K) rfl) (pv 0) (pv 3) (fun _ _ => rfl)) (pv 2) (by rfl))))) (pss_one (ps_aug (i := 3) nd rfl (Or.inl rfl) pe_int DL.ip_addU))) (pss_one (ps_ret (pv 3))))), ?_⟩
  intro dvs o R X h
  have st : ∀ z, dvs = z → startD N_run_end.length dvs = startD 4 z := fun z e => by rw [e]; rfl
  obtain ⟨t, i, al, p, rfl, hl, hi, hp, q⟩ := h
  rw [st _ rfl]; clear st; simp only [startD, toSl, List.map_cons, List.map_nil, List.length_cons, List.length_nil, List.cons_append, List.nil_append, List.append_nil, Nat.reduceAdd, Nat.reduceSub, List.reduceReplicate, Nat.zero_add, List.replicate_zero, Nat.sub_self]
  repeat array_get_dec
  have hs : sizeLine = 16777216 := sizeLine_eq
  have htl := len_tl t
  refine xs_while (fun m ρ' o' => Hold (∃ k : Nat, o = o' ∧ ρ' = [.val (.str t), .val (.int (i : Nat)), .val (.str al), .val (.int (k : Nat))] ∧ m = t.length - k ∧ k ≤ t.length ∧ k + DL.run p ((TL.tl t).drop k) = i + DL.run p ((TL.tl t).drop i))) (t.length - i) (hold ⟨i, rfl, rfl, rfl, hi, rfl⟩) ?_
  rintro m _ _ ⟨k, rfl, rfl, rfl, hk, hrn⟩
  repeat array_get_dec
  refine xc_lenS (by omega) ?_
  repeat array_get_dec
  refine bs_d (fun hlt => ?_) fun hlt => ?_
  · have hkl : k < (TL.tl t).length := by omega
    have hget := List.getElem?_eq_getElem hkl
    generalize (TL.tl t)[k] = c at hget
    repeat array_get_dec
    refine xr_ixS (by omega) (atD_of (j := k) rfl hget) ?_
    repeat array_get_dec
    rw [hp]
    refine bs_b (fun h1 => ?_) fun h1 => ?_
    · refine xs_augA rfl (xe_int ⟨1, rfl, rfl, ?_⟩)
      exact ⟨t.length - (k + 1), by omega, hold ⟨k + 1, rfl, rfl, rfl, by omega, run_step hget h1 hrn⟩⟩
    · repeat array_get_dec
      rw [run_stop hget h1, Nat.add_zero] at hrn
      rw [hrn]
      exact q
  · repeat array_get_dec
    rw [run_end (k := k) (by omega), Nat.add_zero] at hrn
    rw [hrn]
    exact q
theorem ok_token_at (T : Txt K mg) (G_run_end : FnOk P w K mg base CX0 1 T.a_run_end T.fd_run_end ["text", "start", "allowed"] (spD K (S_run_end K))) : FnOk P w K mg base CX0 2 T.a_token_at T.fd_token_at ["text", "start"] (spD K (S_token_at K)) := by
  refine fnD T.F_token_at sc_token_at ?len fun cdv A outer s H E hr => ?body
  case len => intro dvs o R X h; first | (obtain ⟨rfl, _⟩ := h; rfl) | (obtain ⟨_, rfl, _⟩ := h; rfl) | (obtain ⟨_, _, rfl, _⟩ := h; rfl) | (obtain ⟨_, _, _, rfl, _⟩ := h; rfl) | (obtain ⟨_, _, _, _, rfl, _⟩ := h; rfl) | (obtain ⟨_, _, _, _, _, rfl, _⟩ := h; rfl) | (obtain ⟨_, _, _, _, _, _, rfl, _⟩ := h; rfl) | (obtain ⟨_, _, _, _, _, _, _, rfl, _⟩ := h; rfl) | (obtain ⟨_, _, _, _, _, _, _, _, rfl, _⟩ := h; rfl) | (obtain ⟨_, _, _, _, _, _, _, _, _, rfl, _⟩ := h; rfl) | (obtain ⟨_, _, _, _, _, _, _, _, _, _, rfl, _⟩ := h; rfl) | (obtain ⟨_, _, _, _, _, _, _, _, _, _, _, rfl, _⟩ := h; rfl) | (obtain ⟨_, _, _, _, _, _, _, _, _, _, _, _, rfl, _⟩ := h; rfl)
  have nd := sc_token_at.nd
  have hu := hu_of hr
  refine ⟨_, (pss_cons (ps_set (i := 2) nd rfl (Or.inl rfl) (pe_ix (DL.ix_K (K := K) rfl) (pv 0) (pv 1) (fun _ _ => rfl))) (pss_cons (ps_if (pt_cmpR (DL.op_inK (K := K) rfl) (pv 2) (pe_glob (v := .str k_LETTERS) (by rfl) (T.c_LETTERS).choose_spec ⟨_, rfl⟩) (by rfl)) (pss_cons (ps_set (i := 3) nd rfl (Or.inl rfl) (pe_call G_run_end (hr.mono (by first | decide | omega)) (by rfl) T.g_run_end T.F_run_end.kp T.b_run_end .nil pass0 (pa_cons (pv 0) (pa_cons (pv 1) (pa_cons (pe_glob (v := .str k_NAME_CHARACTERS) (by rfl) (T.c_NAME_CHARACTERS).choose_spec ⟨_, rfl⟩) pa_nil))))) (pss_cons (ps_if (pt_cmpR (DL.op_inK (K := K) rfl) (pe_slice (DL.sl_K (K := K) rfl) (pv 0) (po_some (pv 1)) (po_some (pv 3))) (pe_glob (v := .ref T.a_WORDS) (by rfl) T.g_WORDS rfl) (by rfl)) (pss_one (ps_ret (pe_tup (pa_cons pe_str (pa_cons (pv 1) (pa_cons (pv 3) pa_nil)))))) pss_nil) (pss_one (ps_ret (pe_tup (pa_cons pe_str (pa_cons (pv 1) (pa_cons (pv 3) pa_nil)))))))) pss_nil) (pss_cons (ps_if (pt_cmpR (DL.op_inK (K := K) rfl) (pv 2) (pe_glob (v := .str k_DIGITS) (by rfl) (T.c_DIGITS).choose_spec ⟨_, rfl⟩) (by rfl)) (pss_one (ps_ret (pe_tup (pa_cons pe_str (pa_cons (pv 1) (pa_cons (pe_call G_run_end (hr.mono (by first | decide | omega)) (by rfl) T.g_run_end T.F_run_end.kp T.b_run_end .nil pass0 (pa_cons (pv 0) (pa_cons (pv 1) (pa_cons (pe_glob (v := .str k_DIGITS) (by rfl) (T.c_DIGITS).choose_spec ⟨_, rfl⟩) pa_nil)))) pa_nil)))))) pss_nil) (pss_cons (ps_if (pt_cmpR (DL.op_eqK (K := K) rfl hr.units) (pe_slice (DL.sl_K (K := K) rfl) (pv 0) (po_some (pv 1)) (po_some (pe_op (DL.op_addK (K := K) rfl) (pv 1) pe_int))) pe_str (nomark _)) (pss_one (ps_ret (pe_tup (pa_cons pe_str (pa_cons (pv 1) (pa_cons (pe_op (DL.op_addK (K := K) rfl) (pv 1) pe_int) pa_nil)))))) pss_nil) (pss_cons (ps_if (pt_cmpR (DL.op_inK (K := K) rfl) (pv 2) (pe_glob (v := .str k_SIGNS) (by rfl) (T.c_SIGNS).choose_spec ⟨_, rfl⟩) (by rfl)) (pss_one (ps_ret (pe_tup (pa_cons pe_str (pa_cons (pv 1) (pa_cons (pe_op (DL.op_addK (K := K) rfl) (pv 1) pe_int) pa_nil)))))) pss_nil) (pss_one (ps_ret (pe_tup (pa_cons pe_str (pa_cons (pv 1) (pa_cons (pe_op (DL.op_addK (K := K) rfl) (pv 1) pe_int) pa_nil))))))))))), ?_⟩
  intro dvs o R X h
  have st : ∀ z, dvs = z → startD N_token_at.length dvs = startD 4 z := fun z e => by rw [e]; rfl
  obtain ⟨t, i, c, r, rfl, hl, hd, q⟩ := h
  rw [st _ rfl]; clear st; simp only [startD, toSl, List.map_cons, List.map_nil, List.length_cons, List.length_nil, List.cons_append, List.nil_append, List.append_nil, Nat.reduceAdd, Nat.reduceSub, List.reduceReplicate, Nat.zero_add, List.replicate_zero, Nat.sub_self]
  have hs : sizeLine = 16777216 := sizeLine_eq
  have htl := len_tl t
  have hi : i < t.length := by
    have := congrArg List.length hd
    rw [List.length_drop, List.length_cons] at this
    omega
  have hget : (TL.tl t)[i]? = some c := by
    have := congrArg (fun l => l[0]?) hd
    rw [List.getElem?_drop] at this
    exact this
  have hLet := mem_tab (L := k_LETTERS.cps.toList) (p := isLet) (by decide +kernel) (by decide +kernel) isLet_big
  have hDig := mem_tab (L := k_DIGITS.cps.toList) (p := isDig) (by decide +kernel) (by decide +kernel) isDig_big
  have hNam := mem_tab (L := k_NAME_CHARACTERS.cps.toList) (p := isNam) (by decide +kernel) (by decide +kernel) isNam_big
  have hSgn := mem_tab (L := k_SIGNS.cps.toList) (p := isSgn) (by decide +kernel) (by decide +kernel) isSgn_big
  have hW := T.w_WORDS
  have hWL : k_WORDS = wordL := by decide +kernel
  repeat array_get_dec
  refine xr_ixS (by omega) (atD_of (j := i) rfl hget) ?_
  repeat array_get_dec
  rw [hLet]
  refine bs_b (fun h1 => ?_) fun h1 => ?_
  · repeat array_get_dec
    refine ⟨t, i, _, isNam, rfl, by omega, by omega, hNam, ?_⟩
    rw [hd]
    repeat array_get_dec
    refine xsl_S (by omega) ?_
    have hcut := mkS_tl (tl_cutN t i (i + DL.run isNam (c :: r)))
    rw [List.drop_take, hd, Nat.add_sub_cancel_left] at hcut
    repeat array_get_dec
    rw [hcut]
    refine xr_inTs ?_
    rw [hWL]
    have q' : ∀ w : Str, (if mkS ((c :: r).take (DL.run isNam (c :: r))) ∈ wordL then ("word" : Str) else "name") = w → R (DV.d (tkD ⟨w, i, i + DL.run isNam (c :: r)⟩)) o := fun w hw => by
      rw [← hw]
      have : tokC i c r = ⟨if mkS ((c :: r).take (DL.run isNam (c :: r))) ∈ wordL then "word" else "name", i, i + DL.run isNam (c :: r)⟩ := by
        unfold tokC; rw [if_pos h1]
      rw [← this]; exact q
    repeat array_get_dec
    refine bs_d (fun h2 => ?_) fun h2 => ?_
    · repeat array_get_dec
      exact q' _ (if_pos h2)
    · repeat array_get_dec
      exact q' _ (if_neg h2)
  · have e1 : tokC i c r = if isDig c = true then ⟨"number", i, i + DL.run isDig (c :: r)⟩ else if (c :: r).take 2 = [61, 61] then ⟨"sign", i, i + 2⟩ else ⟨if isSgn c = true then "sign" else "wrong", i, i + 1⟩ := by
      unfold tokC; rw [if_neg (by rw [h1]; decide)]
    rw [e1] at q
    clear e1
    repeat array_get_dec
    rw [hDig]
    refine bs_b (fun h2 => ?_) fun h2 => ?_
    · rw [if_pos h2] at q
      repeat array_get_dec
      refine ⟨t, i, _, isDig, rfl, by omega, by omega, hDig, ?_⟩
      rw [hd]
      repeat array_get_dec
      exact q
    · rw [if_neg (by rw [h2]; decide)] at q
      repeat array_get_dec
      refine xsl_S (by omega) ?_
      have hcut := tl_cutN t i (i + 2)
      rw [List.drop_take, hd, Nat.add_sub_cancel_left] at hcut
      have heq : TL.tl ("==" : Str) = [61, 61] := by decide +kernel
      have hcut2 : cutS t (some (i : Int)) (some ((i : Int) + 2)) = "==" ↔ (c :: r).take 2 = [61, 61] := by
        rw [str_eq_iff, heq, ← hcut]; exact Iff.rfl
      repeat array_get_dec
      refine bs_d (fun h3 => ?_) fun h3 => ?_
      · rw [if_pos (hcut2.mp h3)] at q
        repeat array_get_dec
        exact q
      · rw [if_neg (fun z => h3 (hcut2.mpr z))] at q
        repeat array_get_dec
        rw [hSgn]
        refine bs_b (fun h4 => ?_) fun h4 => ?_
        · rw [if_pos h4] at q
          repeat array_get_dec
          exact q
        · rw [if_neg (by rw [h4]; decide)] at q
          repeat array_get_dec
          exact q
theorem ok_tokens_between (T : Txt K mg) (G_token_at : FnOk P w K mg base CX0 2 T.a_token_at T.fd_token_at ["text", "start"] (spD K (S_token_at K))) : FnOk P w K mg base CX0 3 T.a_tokens_between T.fd_tokens_between ["text", "start", "end"] (spD K (S_tokens_between K)) := by
  refine fnD T.F_tokens_between sc_tokens_between ?len fun cdv A outer s H E hr => ?body
  case len => intro dvs o R X h; first | (obtain ⟨rfl, _⟩ := h; rfl) | (obtain ⟨_, rfl, _⟩ := h; rfl) | (obtain ⟨_, _, rfl, _⟩ := h; rfl) | (obtain ⟨_, _, _, rfl, _⟩ := h; rfl) | (obtain ⟨_, _, _, _, rfl, _⟩ := h; rfl) | (obtain ⟨_, _, _, _, _, rfl, _⟩ := h; rfl) | (obtain ⟨_, _, _, _, _, _, rfl, _⟩ := h; rfl) | (obtain ⟨_, _, _, _, _, _, _, rfl, _⟩ := h; rfl) | (obtain ⟨_, _, _, _, _, _, _, _, rfl, _⟩ := h; rfl) | (obtain ⟨_, _, _, _, _, _, _, _, _, rfl, _⟩ := h; rfl) | (obtain ⟨_, _, _, _, _, _, _, _, _, _, rfl, _⟩ := h; rfl) | (obtain ⟨_, _, _, _, _, _, _, _, _, _, _, rfl, _⟩ := h; rfl) | (obtain ⟨_, _, _, _, _, _, _, _, _, _, _, _, rfl, _⟩ := h; rfl)
  have nd := sc_tokens_between.nd
  have hu := hu_of hr
  refine ⟨_, (pss_cons (ps_set (i := 3) nd rfl (Or.inl rfl) (pe_lst pa_nil)) (pss_cons (ps_set (i := 4) nd rfl (Or.inl rfl) (pv 1)) (pss_cons (ps_while PassesOwn.never (pt_cmpR (DL.op_ltU) (pv 4) (pv 2) (nomark _)) (pss_one (ps_if (PW.pt (pw_or (pt_cmpR (DL.op_eqK (K := K) rfl hr.units) (pe_ix (DL.ix_K (K := K) rfl) (pv 0) (pv 4) (fun _ _ => rfl)) pe_str (nomark _)) (pw_or1 (pt_cmpR (DL.op_eqK (K := K) rfl hr.units) (pe_ix (DL.ix_K (K := K) rfl) (pv 0) (pv 4) (fun _ _ => rfl)) pe_str (nomark _))))) (pss_one (ps_aug (i := 4) nd rfl (Or.inl rfl) pe_int DL.ip_addU)) (pss_one (ps_if (pt_cmpR (DL.op_eqK (K := K) rfl hr.units) (pe_ix (DL.ix_K (K := K) rfl) (pv 0) (pv 4) (fun _ _ => rfl)) pe_str (nomark _)) (pss_cons (ps_set (i := 5) nd rfl (Or.inl rfl) (DL.pe_bmK (K := K) rfl (pe_bm PySem.F.plainAttrs_str PySem.F.slot_str_find PySem.F.type_str_find mt_find3 (pv 0) (pa_cons pe_str (pa_cons (pv 4) pa_nil))))) (pss_one (ps_set (i := 4) nd rfl (Or.inl rfl) (pe_ifExp (pt_cmpR (DL.op_ltU) (pv 5) pe_int (nomark _)) (pv 2) (pv 5))))) (pss_cons (ps_set (i := 6) nd rfl (Or.inl rfl) (pe_call G_token_at (hr.mono (by first | decide | omega)) (by rfl) T.g_token_at T.F_token_at.kp T.b_token_at .nil pass0 (pa_cons (pv 0) (pa_cons (pv 4) pa_nil)))) (pss_cons (ps_expr (DL.pe_bmK (K := K) rfl (pe_bm PySem.F.plainAttrs_list PySem.F.slot_list_append PySem.F.type_list_append mt_append (pv 3) (pa_cons (pv 6) pa_nil)))) (pss_one (ps_set (i := 4) nd rfl (Or.inl rfl) (pe_ix (DL.ix_K (K := K) rfl) (pv 6) pe_int (fun _ _ => rfl))))))))))) (pss_one (ps_ret (pv 3)))))), ?_⟩
  intro dvs o R X h
  have st : ∀ z, dvs = z → startD N_tokens_between.length dvs = startD 7 z := fun z e => by rw [e]; rfl
  obtain ⟨t, s0, e0, rfl, hl, hs0, he, q⟩ := h
  rw [st _ rfl]; clear st; simp only [startD, toSl, List.map_cons, List.map_nil, List.length_cons, List.length_nil, List.cons_append, List.nil_append, List.append_nil, Nat.reduceAdd, Nat.reduceSub, List.reduceReplicate, Nat.zero_add, List.replicate_zero, Nat.sub_self]
  have hs : sizeLine = 16777216 := sizeLine_eq
  have htl := len_tl t
  repeat array_get_dec
  have s32 : TL.tl (" " : Str) = [32] := by decide +kernel
  have s10 : TL.tl ("\n" : Str) = [10] := by decide +kernel
  have s35 : TL.tl ("#" : Str) = [35] := by decide +kernel
  refine xs_while (fun m ρ' o' => Hold (∃ (k : Nat) (acc : List Tk) (x5 x6 : Sl), o = o' ∧ ρ' = [.val (.str t), .val (nI s0), .val (nI e0), .own (.lst (acc.map tkD)), .val (nI k), x5, x6] ∧ m = t.length - k ∧ k ≤ t.length ∧ acc.length ≤ k ∧ acc ++ toksB (TL.tl t) k e0 = toksB (TL.tl t) s0 e0)) (t.length - s0) (hold ⟨s0, [], _, _, rfl, rfl, rfl, hs0, Nat.zero_le _, rfl⟩) ?_
  rintro m _ _ ⟨k, acc, x5, x6, rfl, rfl, rfl, hk, ha, hrn⟩
  repeat array_get_dec
  refine bs_d (fun hlt => ?_) fun hlt => ?_
  · have hlt : k < e0 := by omega
    have hkl : k < (TL.tl t).length := by omega
    have hget := List.getElem?_eq_getElem hkl
    generalize (TL.tl t)[k] = c at hget
    have hat : atI t.cps.toList (k : Int) = some c := atD_of (j := k) rfl hget
    repeat array_get_dec
    refine xr_ixS (by omega) hat ?_
    repeat array_get_dec
    rw [sgn_dec s32]
    refine bs_d (fun h1 => ?_) fun h1 => ?_
    · repeat array_get_dec
      refine xs_augA rfl (xe_int ⟨1, rfl, rfl, ?_⟩)
      exact ⟨t.length - (k + 1), by omega, hold ⟨k + 1, acc, x5, x6, rfl, rfl, rfl, by omega, by omega, by rw [← toksB_gap hget (.inl h1)]; exact hrn⟩⟩
    · repeat array_get_dec
      refine xr_ixS (by omega) hat ?_
      repeat array_get_dec
      rw [sgn_dec s10]
      refine bs_d (fun h2 => ?_) fun h2 => ?_
      · repeat array_get_dec
        refine xs_augA rfl (xe_int ⟨1, rfl, rfl, ?_⟩)
        exact ⟨t.length - (k + 1), by omega, hold ⟨k + 1, acc, x5, x6, rfl, rfl, rfl, by omega, by omega, by rw [← toksB_gap hget (.inr h2)]; exact hrn⟩⟩
      · repeat array_get_dec
        refine xr_ixS (by omega) hat ?_
        repeat array_get_dec
        rw [sgn_dec s35]
        refine bs_d (fun h3 => ?_) fun h3 => ?_
        · subst h3
          repeat array_get_dec
          refine xm_s2i ?_
          rw [find3_run t k (by omega)]
          rw [toksB_comment hget] at hrn
          have hrun : 0 < DL.run (fun c => c != 10) ((TL.tl t).drop k) := by rw [drop_get hget]; exact run_pos (by decide)
          generalize DL.run (fun c => c != 10) ((TL.tl t).drop k) = j at hrn hrun
          by_cases hj : k + j < t.length
          · rw [if_pos hj]
            repeat array_get_dec
            refine bs_d (fun h4 => absurd h4 (by omega)) fun h4 => ?_
            repeat array_get_dec
            exact ⟨t.length - (k + j), by omega, hold ⟨k + j, acc, _, x6, rfl, rfl, rfl, by omega, by omega, hrn⟩⟩
          · rw [if_neg hj]
            repeat array_get_dec
            refine bs_d (fun h4 => ?_) fun h4 => absurd h4 (by omega)
            repeat array_get_dec
            exact ⟨t.length - e0, by omega, hold ⟨e0, acc, _, x6, rfl, rfl, rfl, by omega, by omega, by rw [toksB_end (Nat.le_refl _)]; rw [toksB_end (by omega)] at hrn; exact hrn⟩⟩
        · repeat array_get_dec
          refine ⟨t, k, c, _, rfl, by omega, drop_get hget, ?_⟩
          rw [toksB_tok hget hlt h1 h2 h3] at hrn
          have hb := tokC_b k c ((TL.tl t).drop (k + 1))
          have hta := tokC_a k c ((TL.tl t).drop (k + 1))
          rw [List.length_drop] at hb
          generalize tokC k c ((TL.tl t).drop (k + 1)) = tk at hrn hb hta
          obtain ⟨ts, ta, tb⟩ := tk
          repeat array_get_dec
          refine xm_append (by rw [List.length_map]; omega) rfl ?_
          repeat array_get_dec
          refine xr_ixT (d := nI tb) (atD_of (j := 2) rfl rfl) ?_
          repeat array_get_dec
          exact ⟨t.length - tb, by have := hb.1; have : k < tb := this; omega, hold ⟨tb, acc ++ [⟨ts, ta, tb⟩], x5, _, rfl, by rw [List.map_append]; rfl, rfl, by have := hb.2; have : tb ≤ k + ((TL.tl t).length - (k + 1) + 1) := this; omega, by have := hb.1; have : k < tb := this; rw [List.length_append, List.length_singleton]; omega, by rw [List.append_assoc]; exact hrn⟩⟩
  · rw [toksB_end (by omega), List.append_nil] at hrn
    rw [← hrn] at q
    repeat array_get_dec
    exact q
theorem ok_tokens (T : Txt K mg) (G_tokens_between : FnOk P w K mg base CX0 3 T.a_tokens_between T.fd_tokens_between ["text", "start", "end"] (spD K (S_tokens_between K))) : FnOk P w K mg base CX0 4 T.a_tokens T.fd_tokens ["text"] (spD K (S_tokens K)) := by
  refine fnD T.F_tokens sc_tokens ?len fun cdv A outer s H E hr => ?body
  case len => intro dvs o R X h; first | (obtain ⟨rfl, _⟩ := h; rfl) | (obtain ⟨_, rfl, _⟩ := h; rfl) | (obtain ⟨_, _, rfl, _⟩ := h; rfl) | (obtain ⟨_, _, _, rfl, _⟩ := h; rfl) | (obtain ⟨_, _, _, _, rfl, _⟩ := h; rfl) | (obtain ⟨_, _, _, _, _, rfl, _⟩ := h; rfl) | (obtain ⟨_, _, _, _, _, _, rfl, _⟩ := h; rfl) | (obtain ⟨_, _, _, _, _, _, _, rfl, _⟩ := h; rfl) | (obtain ⟨_, _, _, _, _, _, _, _, rfl, _⟩ := h; rfl) | (obtain ⟨_, _, _, _, _, _, _, _, _, rfl, _⟩ := h; rfl) | (obtain ⟨_, _, _, _, _, _, _, _, _, _, rfl, _⟩ := h; rfl) | (obtain ⟨_, _, _, _, _, _, _, _, _, _, _, rfl, _⟩ := h; rfl) | (obtain ⟨_, _, _, _, _, _, _, _, _, _, _, _, rfl, _⟩ := h; rfl)
  have nd := sc_tokens.nd
  have hu := hu_of hr
  refine ⟨_, (pss_one (ps_ret (pe_call G_tokens_between (hr.mono (by first | decide | omega)) (by rfl) T.g_tokens_between T.F_tokens_between.kp T.b_tokens_between .nil pass0 (pa_cons (pv 0) (pa_cons pe_int (pa_cons (pe_callB (DL.call_lenK (K := K) rfl) (by rfl) T.n_len (by decide +kernel) (pa_cons (pv 0) pa_nil)) pa_nil)))))), ?_⟩
  intro dvs o R X h
  have st : ∀ z, dvs = z → startD N_tokens.length dvs = startD 1 z := fun z e => by rw [e]; rfl
  obtain ⟨t, rfl, hl, q⟩ := h
  rw [st _ rfl]; clear st; simp only [startD, toSl, List.map_cons, List.map_nil, List.length_cons, List.length_nil, List.cons_append, List.nil_append, List.append_nil, Nat.reduceAdd, Nat.reduceSub, List.reduceReplicate, Nat.zero_add, List.replicate_zero, Nat.sub_self]
  have hs : sizeLine = 16777216 := sizeLine_eq
  repeat array_get_dec
  refine xc_lenS (by omega) ?_
  repeat array_get_dec
  refine ⟨t, 0, t.length, rfl, hl, Nat.zero_le _, Nat.le_refl _, ?_⟩
  repeat array_get_dec
  have : toksB (TL.tl t) 0 t.length = toksN (TL.tl t) := by
    unfold toksB toksN
    refine List.filter_eq_self.mpr fun x hx => ?_
    have := scan_a _ _ _ _ x hx
    rw [List.drop_zero, ← len_tl] at this
    simp
    omega
  rw [this]
  exact q
theorem rd_cls (T : Txt K mg) : clsA K "Reader" = T.a_Reader := clsA_of T.i_Reader
theorem ok_Reader_place (T : Txt K mg)  : FnOk P w K mg base CX0 1 T.a_Reader_place T.fd_Reader_place ["self"] (spD K (S_Reader_place K)) := by
  refine fnD T.F_Reader_place sc_Reader_place ?len fun cdv A outer s H E hr => ?body
  case len => intro dvs o R X h; first | (obtain ⟨rfl, _⟩ := h; rfl) | (obtain ⟨_, rfl, _⟩ := h; rfl) | (obtain ⟨_, _, rfl, _⟩ := h; rfl) | (obtain ⟨_, _, _, rfl, _⟩ := h; rfl) | (obtain ⟨_, _, _, _, rfl, _⟩ := h; rfl) | (obtain ⟨_, _, _, _, _, rfl, _⟩ := h; rfl) | (obtain ⟨_, _, _, _, _, _, rfl, _⟩ := h; rfl) | (obtain ⟨_, _, _, _, _, _, _, rfl, _⟩ := h; rfl) | (obtain ⟨_, _, _, _, _, _, _, _, rfl, _⟩ := h; rfl) | (obtain ⟨_, _, _, _, _, _, _, _, _, rfl, _⟩ := h; rfl) | (obtain ⟨_, _, _, _, _, _, _, _, _, _, rfl, _⟩ := h; rfl) | (obtain ⟨_, _, _, _, _, _, _, _, _, _, _, rfl, _⟩ := h; rfl) | (obtain ⟨_, _, _, _, _, _, _, _, _, _, _, _, rfl, _⟩ := h; rfl)
  have nd := sc_Reader_place.nd
  have hu := hu_of hr
  refine ⟨_, (pss_cons (ps_if (pt_cmpR (DL.op_ltU) (DL.pe_fldK (K := K) rfl (pv 0) rfl) (pe_callB (DL.call_lenK (K := K) rfl) (by rfl) T.n_len (by decide +kernel) (pa_cons (DL.pe_fldK (K := K) rfl (pv 0) rfl) pa_nil)) (nomark _)) (pss_one (ps_ret (pe_tup (pa_cons (pe_ix (DL.ix_K (K := K) rfl) (pe_ix (DL.ix_K (K := K) rfl) (DL.pe_fldK (K := K) rfl (pv 0) rfl) (DL.pe_fldK (K := K) rfl (pv 0) rfl) (fun _ _ => rfl)) pe_int (fun _ _ => rfl)) (pa_cons (pe_ix (DL.ix_K (K := K) rfl) (pe_ix (DL.ix_K (K := K) rfl) (DL.pe_fldK (K := K) rfl (pv 0) rfl) (DL.pe_fldK (K := K) rfl (pv 0) rfl) (fun _ _ => rfl)) pe_int (fun _ _ => rfl)) pa_nil))))) pss_nil) (pss_cons (ps_if (pt_not (DL.pt_truK (K := K) rfl (DL.pe_fldK (K := K) rfl (pv 0) rfl) (by intro _; rfl))) (pss_one (ps_ret (pe_tup (pa_cons pe_int (pa_cons pe_int pa_nil))))) pss_nil) (pss_one (ps_ret (pe_tup (pa_cons (pe_ix (DL.ix_K (K := K) rfl) (pe_ix (DL.ix_K (K := K) rfl) (DL.pe_fldK (K := K) rfl (pv 0) rfl) (pe_un un_neg pe_int) (fun _ _ => rfl)) pe_int (fun _ _ => rfl)) (pa_cons (pe_ix (DL.ix_K (K := K) rfl) (pe_ix (DL.ix_K (K := K) rfl) (DL.pe_fldK (K := K) rfl (pv 0) rfl) (pe_un un_neg pe_int) (fun _ _ => rfl)) pe_int (fun _ _ => rfl)) pa_nil))))))), ?_⟩
  intro dvs o R X h
  have st : ∀ z, dvs = z → startD N_Reader_place.length dvs = startD 1 z := fun z e => by rw [e]; rfl
  obtain ⟨x, dx, t, p, d, rfl, rfl, ht, q⟩ := h
  rw [st _ rfl]; clear st; simp only [startD, toSl, List.map_cons, List.map_nil, List.length_cons, List.length_nil, List.cons_append, List.nil_append, List.append_nil, Nat.reduceAdd, Nat.reduceSub, List.reduceReplicate, Nat.zero_add, List.replicate_zero, Nat.sub_self]
  have hs : sizeLine = 16777216 := sizeLine_eq
  have cl := T.cl_Reader
  have n1 := T.no_Reader_text
  have n2 := T.no_Reader_tokens
  have n3 := T.no_Reader_at
  have n4 := T.no_Reader_depth
  have eO : ∀ p d, rdOb K x dx t p d = insOb K T.a_Reader x dx (rdF t p d) := fun p d => by unfold rdOb; rw [rd_cls T]
  rw [eO]
  rw [eO] at q
  have hkl := ks_len t
  repeat array_get_dec
  rw [hkl]
  refine bs_d (fun h1 => ?_) fun h1 => ?_
  · have hp : p < (ksT t).length := by omega
    have he := List.getElem?_eq_getElem hp
    generalize (ksT t)[p] = k at he
    have hd := ks_at he
    rw [plc_at he] at q
    unfold tkD at hd
    repeat array_get_dec
    refine xr_ixL isl_d (atD_of (j := p) rfl hd) ?_
    repeat array_get_dec
    refine xr_ixT (atD_of (j := 1) rfl rfl) ?_
    repeat array_get_dec
    refine xr_ixL isl_d (atD_of (j := p) rfl hd) ?_
    repeat array_get_dec
    refine xr_ixT (atD_of (j := 2) rfl rfl) ?_
    repeat array_get_dec
    exact q
  · repeat array_get_dec
    cases h0 : (toksD (TL.tl t)).isEmpty with
    | true =>
      rw [ks_emp h0, plc_nil] at q
      refine ⟨fun _ => ?_, fun z => (nomatch z)⟩
      repeat array_get_dec
      exact q
    | false =>
      have hn := ks_some h0
      have he := List.getElem?_eq_getElem (show (ksT t).length - 1 < (ksT t).length by omega)
      generalize (ksT t)[(ksT t).length - 1] = k at he
      have hd := ks_at he
      rw [← hkl] at hd
      rw [plc_end (by omega) he] at q
      unfold tkD at hd
      refine ⟨fun z => (nomatch z), fun _ => ?_⟩
      repeat array_get_dec
      refine xr_ixL isl_d (rd_last hd) ?_
      repeat array_get_dec
      refine xr_ixT (atD_of (j := 2) rfl rfl) ?_
      repeat array_get_dec
      refine xr_ixL isl_d (rd_last hd) ?_
      repeat array_get_dec
      refine xr_ixT (atD_of (j := 2) rfl rfl) ?_
      repeat array_get_dec
      exact q
theorem ok_Reader_sort_now (T : Txt K mg)  : FnOk P w K mg base CX0 1 T.a_Reader_sort_now T.fd_Reader_sort_now ["self"] (spD K (S_Reader_sort_now K)) := by
  refine fnD T.F_Reader_sort_now sc_Reader_sort_now ?len fun cdv A outer s H E hr => ?body
  case len => intro dvs o R X h; first | (obtain ⟨rfl, _⟩ := h; rfl) | (obtain ⟨_, rfl, _⟩ := h; rfl) | (obtain ⟨_, _, rfl, _⟩ := h; rfl) | (obtain ⟨_, _, _, rfl, _⟩ := h; rfl) | (obtain ⟨_, _, _, _, rfl, _⟩ := h; rfl) | (obtain ⟨_, _, _, _, _, rfl, _⟩ := h; rfl) | (obtain ⟨_, _, _, _, _, _, rfl, _⟩ := h; rfl) | (obtain ⟨_, _, _, _, _, _, _, rfl, _⟩ := h; rfl) | (obtain ⟨_, _, _, _, _, _, _, _, rfl, _⟩ := h; rfl) | (obtain ⟨_, _, _, _, _, _, _, _, _, rfl, _⟩ := h; rfl) | (obtain ⟨_, _, _, _, _, _, _, _, _, _, rfl, _⟩ := h; rfl) | (obtain ⟨_, _, _, _, _, _, _, _, _, _, _, rfl, _⟩ := h; rfl) | (obtain ⟨_, _, _, _, _, _, _, _, _, _, _, _, rfl, _⟩ := h; rfl)
  have nd := sc_Reader_sort_now.nd
  have hu := hu_of hr
  refine ⟨_, (pss_cons (ps_if (pt_cmpR (DL.op_ltU) (DL.pe_fldK (K := K) rfl (pv 0) rfl) (pe_callB (DL.call_lenK (K := K) rfl) (by rfl) T.n_len (by decide +kernel) (pa_cons (DL.pe_fldK (K := K) rfl (pv 0) rfl) pa_nil)) (nomark _)) (pss_one (ps_ret (pe_ix (DL.ix_K (K := K) rfl) (pe_ix (DL.ix_K (K := K) rfl) (DL.pe_fldK (K := K) rfl (pv 0) rfl) (DL.pe_fldK (K := K) rfl (pv 0) rfl) (fun _ _ => rfl)) pe_int (fun _ _ => rfl)))) pss_nil) (pss_one (ps_ret pe_str))), ?_⟩
  intro dvs o R X h
  have st : ∀ z, dvs = z → startD N_Reader_sort_now.length dvs = startD 1 z := fun z e => by rw [e]; rfl
  obtain ⟨x, dx, t, p, d, rfl, rfl, ht, q⟩ := h
  rw [st _ rfl]; clear st; simp only [startD, toSl, List.map_cons, List.map_nil, List.length_cons, List.length_nil, List.cons_append, List.nil_append, List.append_nil, Nat.reduceAdd, Nat.reduceSub, List.reduceReplicate, Nat.zero_add, List.replicate_zero, Nat.sub_self]
  have hs : sizeLine = 16777216 := sizeLine_eq
  have cl := T.cl_Reader
  have n1 := T.no_Reader_text
  have n2 := T.no_Reader_tokens
  have n3 := T.no_Reader_at
  have n4 := T.no_Reader_depth
  have eO : ∀ p d, rdOb K x dx t p d = insOb K T.a_Reader x dx (rdF t p d) := fun p d => by unfold rdOb; rw [rd_cls T]
  rw [eO]
  rw [eO] at q
  have hkl := ks_len t
  repeat array_get_dec
  rw [hkl]
  refine bs_d (fun h1 => ?_) fun h1 => ?_
  · have hp : p < (ksT t).length := by omega
    have he := List.getElem?_eq_getElem hp
    generalize (ksT t)[p] = k at he
    have hd := ks_at he
    rw [srt_at he] at q
    unfold tkD at hd
    repeat array_get_dec
    refine xr_ixL isl_d (atD_of (j := p) rfl hd) ?_
    repeat array_get_dec
    refine xr_ixT (atD_of (j := 0) rfl rfl) ?_
    repeat array_get_dec
    exact q
  · rw [srt_end (by omega)] at q
    repeat array_get_dec
    exact q
theorem ok_Reader_fixed (T : Txt K mg) (G_Reader_place : FnOk P w K mg base CX0 1 T.a_Reader_place T.fd_Reader_place ["self"] (spD K (S_Reader_place K))) (G_Reader_sort_now : FnOk P w K mg base CX0 1 T.a_Reader_sort_now T.fd_Reader_sort_now ["self"] (spD K (S_Reader_sort_now K))) : FnOk P w K mg base CX0 2 T.a_Reader_fixed T.fd_Reader_fixed ["self"] (spD K (S_Reader_fixed K)) := by
  refine fnD T.F_Reader_fixed sc_Reader_fixed ?len fun cdv A outer s H E hr => ?body
  case len => intro dvs o R X h; first | (obtain ⟨rfl, _⟩ := h; rfl) | (obtain ⟨_, rfl, _⟩ := h; rfl) | (obtain ⟨_, _, rfl, _⟩ := h; rfl) | (obtain ⟨_, _, _, rfl, _⟩ := h; rfl) | (obtain ⟨_, _, _, _, rfl, _⟩ := h; rfl) | (obtain ⟨_, _, _, _, _, rfl, _⟩ := h; rfl) | (obtain ⟨_, _, _, _, _, _, rfl, _⟩ := h; rfl) | (obtain ⟨_, _, _, _, _, _, _, rfl, _⟩ := h; rfl) | (obtain ⟨_, _, _, _, _, _, _, _, rfl, _⟩ := h; rfl) | (obtain ⟨_, _, _, _, _, _, _, _, _, rfl, _⟩ := h; rfl) | (obtain ⟨_, _, _, _, _, _, _, _, _, _, rfl, _⟩ := h; rfl) | (obtain ⟨_, _, _, _, _, _, _, _, _, _, _, rfl, _⟩ := h; rfl) | (obtain ⟨_, _, _, _, _, _, _, _, _, _, _, _, rfl, _⟩ := h; rfl)
  have nd := sc_Reader_fixed.nd
  have hu := hu_of hr
  refine ⟨_, (pss_cons (ps_if (PW.pt (pw_or (pt_cmpR (DL.op_eqK (K := K) rfl hr.units) (pe_meth0 (pv 0) T.cl_Reader T.m_Reader_sort_now G_Reader_sort_now (hr.mono (by first | decide | omega)) T.b_Reader_sort_now .nil pass0) pe_str (nomark _)) (pw_or1 (pt_cmpR (DL.op_eqK (K := K) rfl hr.units) (pe_meth0 (pv 0) T.cl_Reader T.m_Reader_sort_now G_Reader_sort_now (hr.mono (by first | decide | omega)) T.b_Reader_sort_now .nil pass0) pe_str (nomark _))))) (pss_cons (ps_asg (pe_meth0 (pv 0) T.cl_Reader T.m_Reader_place G_Reader_place (hr.mono (by first | decide | omega)) T.b_Reader_place .nil pass0) (DL.pg_tupK (K := K) (n := 2) rfl (pg_tup (by rfl) (pgs_cons (pg_name (i := 1) nd rfl (Or.inl rfl)) (pgs_cons (pg_name (i := 2) nd rfl (Or.inl rfl)) pgs_nil))))) (pss_one (ps_ret (pe_slice (DL.sl_K (K := K) rfl) (DL.pe_fldK (K := K) rfl (pv 0) rfl) (po_some (pv 1)) (po_some (pv 2)))))) pss_nil) (pss_one (ps_ret pe_str))), ?_⟩
  intro dvs o R X h
  have st : ∀ z, dvs = z → startD N_Reader_fixed.length dvs = startD 3 z := fun z e => by rw [e]; rfl
  obtain ⟨x, dx, t, p, d, rfl, rfl, ht, q⟩ := h
  rw [st _ rfl]; clear st; simp only [startD, toSl, List.map_cons, List.map_nil, List.length_cons, List.length_nil, List.cons_append, List.nil_append, List.append_nil, Nat.reduceAdd, Nat.reduceSub, List.reduceReplicate, Nat.zero_add, List.replicate_zero, Nat.sub_self]
  have hs : sizeLine = 16777216 := sizeLine_eq
  have cl := T.cl_Reader
  have n1 := T.no_Reader_text
  have n2 := T.no_Reader_tokens
  have n3 := T.no_Reader_at
  have n4 := T.no_Reader_depth
  have eO : ∀ p d, rdOb K x dx t p d = insOb K T.a_Reader x dx (rdF t p d) := fun p d => by unfold rdOb; rw [rd_cls T]
  rw [eO]
  rw [eO] at q
  repeat array_get_dec
  refine ⟨x, dx, t, p, d, rfl, (eO _ _).symm, ht, ?_⟩
  repeat array_get_dec
  refine bs_d (fun h1 => ?_) fun h1 => ?_
  · have hf : fx t (ksT t) p = cutN t (plc (ksT t) p).1 (plc (ksT t) p).2 := if_pos (.inl h1)
    rw [hf] at q
    repeat array_get_dec
    refine ⟨x, dx, t, p, d, rfl, (eO _ _).symm, ht, ?_⟩
    repeat array_get_dec
    refine xsl_S (by omega) ?_
    repeat array_get_dec
    exact q
  · repeat array_get_dec
    refine ⟨x, dx, t, p, d, rfl, (eO _ _).symm, ht, ?_⟩
    repeat array_get_dec
    refine bs_d (fun h2 => ?_) fun h2 => ?_
    · have hf : fx t (ksT t) p = cutN t (plc (ksT t) p).1 (plc (ksT t) p).2 := if_pos (.inr h2)
      rw [hf] at q
      repeat array_get_dec
      refine ⟨x, dx, t, p, d, rfl, (eO _ _).symm, ht, ?_⟩
      repeat array_get_dec
      refine xsl_S (by omega) ?_
      repeat array_get_dec
      exact q
    · have hf : fx t (ksT t) p = "" := if_neg fun z => z.elim h1 h2
      rw [hf] at q
      repeat array_get_dec
      exact q
theorem ok_SyntaxProblem___init__ (T : Txt K mg) : FnOk P w K mg base CX0 1 T.a_SyntaxProblem___init__ T.fd_SyntaxProblem___init__ ["self", "start", "end"] (spI2 T.e_SyntaxProblem "start" "end") :=
  init2_ok (k := 0) (n1 := "") (n2 := "") T.F_SyntaxProblem___init__ sc_SyntaxProblem___init__ rfl rfl T.o_SyntaxProblem T.no_SyntaxProblem_start T.no_SyntaxProblem_end fun cdv A outer s H E => pss_cons (DL.ps_ostK (K := K) rfl (ps_ost (pv 0) (pv 1) rfl)) (pss_one (DL.ps_ostK (K := K) rfl (ps_ost (pv 0) (pv 2) rfl)))
theorem ok_Reader_need (T : Txt K mg) (G_Reader_place : FnOk P w K mg base CX0 1 T.a_Reader_place T.fd_Reader_place ["self"] (spD K (S_Reader_place K))) (G_SyntaxProblem___init__ : FnOk P w K mg base CX0 1 T.a_SyntaxProblem___init__ T.fd_SyntaxProblem___init__ ["self", "start", "end"] (spI2 T.e_SyntaxProblem "start" "end")) : FnOk P w K mg base (L2N.CX P w) 3 T.a_Reader_need T.fd_Reader_need ["self", "condition"] (spD K (S_Reader_need K)) := by
  refine fnDXN T.F_Reader_need sc_Reader_need ?len fun cdv A outer s H E hr => ?body
  case len => intro dvs o R X h; first | (obtain ⟨rfl, _⟩ := h; rfl) | (obtain ⟨_, rfl, _⟩ := h; rfl) | (obtain ⟨_, _, rfl, _⟩ := h; rfl) | (obtain ⟨_, _, _, rfl, _⟩ := h; rfl) | (obtain ⟨_, _, _, _, rfl, _⟩ := h; rfl) | (obtain ⟨_, _, _, _, _, rfl, _⟩ := h; rfl) | (obtain ⟨_, _, _, _, _, _, rfl, _⟩ := h; rfl) | (obtain ⟨_, _, _, _, _, _, _, rfl, _⟩ := h; rfl) | (obtain ⟨_, _, _, _, _, _, _, _, rfl, _⟩ := h; rfl) | (obtain ⟨_, _, _, _, _, _, _, _, _, rfl, _⟩ := h; rfl) | (obtain ⟨_, _, _, _, _, _, _, _, _, _, rfl, _⟩ := h; rfl) | (obtain ⟨_, _, _, _, _, _, _, _, _, _, _, rfl, _⟩ := h; rfl) | (obtain ⟨_, _, _, _, _, _, _, _, _, _, _, _, rfl, _⟩ := h; rfl)
  have nd := sc_Reader_need.nd
  have hu := hu_of hr
  refine ⟨_, (pss_one (ps_if (pt_not (DL.pt_truK (K := K) rfl (pv 1) (by intro _; rfl))) (pss_cons (ps_asg (pe_meth0 (pv 0) T.cl_Reader T.m_Reader_place G_Reader_place (hr.mono (by first | decide | omega)) T.b_Reader_place .nil pass0) (DL.pg_tupK (K := K) (n := 2) rfl (pg_tup (by rfl) (pgs_cons (pg_name (i := 2) nd rfl (Or.inl rfl)) (pgs_cons (pg_name (i := 3) nd rfl (Or.inl rfl)) pgs_nil))))) (pss_one (DL.ps_raiseON rfl (L2N.takes_of rfl rfl rfl rfl) (DL.pmk_oexN T.o_SyntaxProblem T.j_SyntaxProblem T.h_SyntaxProblem G_SyntaxProblem___init__ (hr.mono (by first | decide | omega)) T.b_SyntaxProblem___init__ pass0 (by rfl) T.g_SyntaxProblem (pa_cons (pv 2) (pa_cons (pv 3) pa_nil)))))) pss_nil)), ?_⟩
  intro dvs o R X h
  have st : ∀ z, dvs = z → startD N_Reader_need.length dvs = startD 4 z := fun z e => by rw [e]; rfl
  obtain ⟨x, dx, t, p, d, c, rfl, rfl, ht, q⟩ := h
  rw [st _ rfl]; clear st; simp only [startD, toSl, List.map_cons, List.map_nil, List.length_cons, List.length_nil, List.cons_append, List.nil_append, List.append_nil, Nat.reduceAdd, Nat.reduceSub, List.reduceReplicate, Nat.zero_add, List.replicate_zero, Nat.sub_self]
  have hs : sizeLine = 16777216 := sizeLine_eq
  have cl := T.cl_Reader
  have n1 := T.no_Reader_text
  have n2 := T.no_Reader_tokens
  have n3 := T.no_Reader_at
  have n4 := T.no_Reader_depth
  have eO : ∀ p d, rdOb K x dx t p d = insOb K T.a_Reader x dx (rdF t p d) := fun p d => by unfold rdOb; rw [rd_cls T]
  rw [eO]
  repeat array_get_dec
  refine bs_nb (fun h1 => ?_) fun h1 => ?_
  · subst h1
    have q : ∀ ex p' d', SynEx K (plc (ksT t) p).1 (plc (ksT t) p).2 ex → X ex (rdOb K x dx t p' d') := q
    repeat array_get_dec
    refine ⟨x, dx, t, p, d, rfl, (eO _ _).symm, ht, ?_⟩
    repeat array_get_dec
    refine xs_raiseO ?_
    repeat array_get_dec
    refine ⟨_, _, rfl, ?_⟩
    have q := q (.ref T.e_SyntaxProblem, some [("end", nI (plc (ksT t) p).2), ("start", nI (plc (ksT t) p).1)]) p d ⟨T.i_SyntaxProblem, rfl⟩
    rw [eO] at q
    exact q
  · subst h1
    have q : R (.d .none) (rdOb K x dx t p d) := q
    rw [eO] at q
    repeat array_get_dec
    exact q
theorem ok_Reader_take (T : Txt K mg) (G_Reader_fixed : FnOk P w K mg base CX0 2 T.a_Reader_fixed T.fd_Reader_fixed ["self"] (spD K (S_Reader_fixed K))) (G_Reader_need : FnOk P w K mg base (L2N.CX P w) 3 T.a_Reader_need T.fd_Reader_need ["self", "condition"] (spD K (S_Reader_need K))) : FnOk P w K mg base (L2N.CX P w) 4 T.a_Reader_take T.fd_Reader_take ["self", "expected"] (spD K (S_Reader_take K)) := by
  refine fnDXN T.F_Reader_take sc_Reader_take ?len fun cdv A outer s H E hr => ?body
  case len => intro dvs o R X h; first | (obtain ⟨rfl, _⟩ := h; rfl) | (obtain ⟨_, rfl, _⟩ := h; rfl) | (obtain ⟨_, _, rfl, _⟩ := h; rfl) | (obtain ⟨_, _, _, rfl, _⟩ := h; rfl) | (obtain ⟨_, _, _, _, rfl, _⟩ := h; rfl) | (obtain ⟨_, _, _, _, _, rfl, _⟩ := h; rfl) | (obtain ⟨_, _, _, _, _, _, rfl, _⟩ := h; rfl) | (obtain ⟨_, _, _, _, _, _, _, rfl, _⟩ := h; rfl) | (obtain ⟨_, _, _, _, _, _, _, _, rfl, _⟩ := h; rfl) | (obtain ⟨_, _, _, _, _, _, _, _, _, rfl, _⟩ := h; rfl) | (obtain ⟨_, _, _, _, _, _, _, _, _, _, rfl, _⟩ := h; rfl) | (obtain ⟨_, _, _, _, _, _, _, _, _, _, _, rfl, _⟩ := h; rfl) | (obtain ⟨_, _, _, _, _, _, _, _, _, _, _, _, rfl, _⟩ := h; rfl)
  have nd := sc_Reader_take.nd
  have hu := hu_of hr
  refine ⟨_, (pss_cons (ps_expr (DL.pe_methW (pv 0) T.cl_Reader T.m_Reader_need G_Reader_need (hr.mono (by first | decide | omega)) T.b_Reader_need (fun σ => L2N.passAt (L2N.takes_of rfl rfl rfl rfl) σ) (pa_cons (pe_cmpR (DL.op_eqK (K := K) rfl hr.units) (pe_meth0 (pv 0) T.cl_Reader T.m_Reader_fixed G_Reader_fixed (hr.mono (by first | decide | omega)) T.b_Reader_fixed .nil pass0) (pv 1) (nomark _)) pa_nil))) (pss_one (DL.ps_fldaugK (K := K) rfl (pv 0) pe_int in_add))), ?_⟩
  intro dvs o R X h
  have st : ∀ z, dvs = z → startD N_Reader_take.length dvs = startD 2 z := fun z e => by rw [e]; rfl
  obtain ⟨x, dx, t, p, d, z, rfl, rfl, ht, q⟩ := h
  rw [st _ rfl]; clear st; simp only [startD, toSl, List.map_cons, List.map_nil, List.length_cons, List.length_nil, List.cons_append, List.nil_append, List.append_nil, Nat.reduceAdd, Nat.reduceSub, List.reduceReplicate, Nat.zero_add, List.replicate_zero, Nat.sub_self]
  have hs : sizeLine = 16777216 := sizeLine_eq
  have cl := T.cl_Reader
  have n1 := T.no_Reader_text
  have n2 := T.no_Reader_tokens
  have n3 := T.no_Reader_at
  have n4 := T.no_Reader_depth
  have eO : ∀ p d, rdOb K x dx t p d = insOb K T.a_Reader x dx (rdF t p d) := fun p d => by unfold rdOb; rw [rd_cls T]
  rw [eO]
  repeat array_get_dec
  refine ⟨x, dx, t, p, d, rfl, (eO _ _).symm, ht, ?_⟩
  repeat array_get_dec
  refine ⟨x, dx, t, p, d, decide (fx t (ksT t) p = z), rfl, (eO _ _).symm, ht, ?_⟩
  by_cases h1 : fx t (ksT t) p = z
  · rw [decide_eq_true h1]
    have e : takeR t (ksT t) z p d = .ok () (p + 1) d := if_pos h1
    rw [e] at q
    have q : R (.d .none) (rdOb K x dx t (p + 1) d) := q
    rw [eO] at q
    refine rds_ok (v := ()) ?_
    rw [eO]
    repeat array_get_dec
    exact q
  · rw [decide_eq_false h1]
    have e : takeR t (ksT t) z p d = .bad (plc (ksT t) p).1 (plc (ksT t) p).2 := if_neg h1
    rw [e] at q
    exact q
theorem ok_Reader_try_take (T : Txt K mg) (G_Reader_fixed : FnOk P w K mg base CX0 2 T.a_Reader_fixed T.fd_Reader_fixed ["self"] (spD K (S_Reader_fixed K))) : FnOk P w K mg base CX0 3 T.a_Reader_try_take T.fd_Reader_try_take ["self", "expected"] (spD K (S_Reader_try_take K)) := by
  refine fnD T.F_Reader_try_take sc_Reader_try_take ?len fun cdv A outer s H E hr => ?body
  case len => intro dvs o R X h; first | (obtain ⟨rfl, _⟩ := h; rfl) | (obtain ⟨_, rfl, _⟩ := h; rfl) | (obtain ⟨_, _, rfl, _⟩ := h; rfl) | (obtain ⟨_, _, _, rfl, _⟩ := h; rfl) | (obtain ⟨_, _, _, _, rfl, _⟩ := h; rfl) | (obtain ⟨_, _, _, _, _, rfl, _⟩ := h; rfl) | (obtain ⟨_, _, _, _, _, _, rfl, _⟩ := h; rfl) | (obtain ⟨_, _, _, _, _, _, _, rfl, _⟩ := h; rfl) | (obtain ⟨_, _, _, _, _, _, _, _, rfl, _⟩ := h; rfl) | (obtain ⟨_, _, _, _, _, _, _, _, _, rfl, _⟩ := h; rfl) | (obtain ⟨_, _, _, _, _, _, _, _, _, _, rfl, _⟩ := h; rfl) | (obtain ⟨_, _, _, _, _, _, _, _, _, _, _, rfl, _⟩ := h; rfl) | (obtain ⟨_, _, _, _, _, _, _, _, _, _, _, _, rfl, _⟩ := h; rfl)
  have nd := sc_Reader_try_take.nd
  have hu := hu_of hr
  refine ⟨_, (pss_cons (ps_if (pt_cmpR (DL.op_neK (K := K) rfl hr.units) (pe_meth0 (pv 0) T.cl_Reader T.m_Reader_fixed G_Reader_fixed (hr.mono (by first | decide | omega)) T.b_Reader_fixed .nil pass0) (pv 1) (nomark _)) (pss_one (ps_ret pe_bl)) pss_nil) (pss_cons (DL.ps_fldaugK (K := K) rfl (pv 0) pe_int in_add) (pss_one (ps_ret pe_bl)))), ?_⟩
  intro dvs o R X h
  have st : ∀ z, dvs = z → startD N_Reader_try_take.length dvs = startD 2 z := fun z e => by rw [e]; rfl
  obtain ⟨x, dx, t, p, d, z, rfl, rfl, ht, q1, q2⟩ := h
  rw [st _ rfl]; clear st; simp only [startD, toSl, List.map_cons, List.map_nil, List.length_cons, List.length_nil, List.cons_append, List.nil_append, List.append_nil, Nat.reduceAdd, Nat.reduceSub, List.reduceReplicate, Nat.zero_add, List.replicate_zero, Nat.sub_self]
  have hs : sizeLine = 16777216 := sizeLine_eq
  have cl := T.cl_Reader
  have n1 := T.no_Reader_text
  have n2 := T.no_Reader_tokens
  have n3 := T.no_Reader_at
  have n4 := T.no_Reader_depth
  have eO : ∀ p d, rdOb K x dx t p d = insOb K T.a_Reader x dx (rdF t p d) := fun p d => by unfold rdOb; rw [rd_cls T]
  rw [eO]
  rw [eO] at q1 q2
  repeat array_get_dec
  refine ⟨x, dx, t, p, d, rfl, (eO _ _).symm, ht, ?_⟩
  repeat array_get_dec
  refine bs_nd (fun h1 => ?_) fun h1 => ?_
  · have q := q2 h1
    repeat array_get_dec
    exact q
  · have q := q1 h1
    repeat array_get_dec
    exact q
theorem ok_Reader_last_end (T : Txt K mg)  : FnOk P w K mg base CX0 1 T.a_Reader_last_end T.fd_Reader_last_end ["self"] (spD K (S_Reader_last_end K)) := by
  refine fnD T.F_Reader_last_end sc_Reader_last_end ?len fun cdv A outer s H E hr => ?body
  case len => intro dvs o R X h; first | (obtain ⟨rfl, _⟩ := h; rfl) | (obtain ⟨_, rfl, _⟩ := h; rfl) | (obtain ⟨_, _, rfl, _⟩ := h; rfl) | (obtain ⟨_, _, _, rfl, _⟩ := h; rfl) | (obtain ⟨_, _, _, _, rfl, _⟩ := h; rfl) | (obtain ⟨_, _, _, _, _, rfl, _⟩ := h; rfl) | (obtain ⟨_, _, _, _, _, _, rfl, _⟩ := h; rfl) | (obtain ⟨_, _, _, _, _, _, _, rfl, _⟩ := h; rfl) | (obtain ⟨_, _, _, _, _, _, _, _, rfl, _⟩ := h; rfl) | (obtain ⟨_, _, _, _, _, _, _, _, _, rfl, _⟩ := h; rfl) | (obtain ⟨_, _, _, _, _, _, _, _, _, _, rfl, _⟩ := h; rfl) | (obtain ⟨_, _, _, _, _, _, _, _, _, _, _, rfl, _⟩ := h; rfl) | (obtain ⟨_, _, _, _, _, _, _, _, _, _, _, _, rfl, _⟩ := h; rfl)
  have nd := sc_Reader_last_end.nd
  have hu := hu_of hr
  refine ⟨_, (pss_one (ps_ret (pe_ix (DL.ix_K (K := K) rfl) (pe_ix (DL.ix_K (K := K) rfl) (DL.pe_fldK (K := K) rfl (pv 0) rfl) (pe_op op_sub (DL.pe_fldK (K := K) rfl (pv 0) rfl) pe_int) (fun _ _ => rfl)) pe_int (fun _ _ => rfl)))), ?_⟩
  intro dvs o R X h
  have st : ∀ z, dvs = z → startD N_Reader_last_end.length dvs = startD 1 z := fun z e => by rw [e]; rfl
  obtain ⟨x, dx, t, p, d, rfl, rfl, ht, h0, h1, q⟩ := h
  rw [st _ rfl]; clear st; simp only [startD, toSl, List.map_cons, List.map_nil, List.length_cons, List.length_nil, List.cons_append, List.nil_append, List.append_nil, Nat.reduceAdd, Nat.reduceSub, List.reduceReplicate, Nat.zero_add, List.replicate_zero, Nat.sub_self]
  have hs : sizeLine = 16777216 := sizeLine_eq
  have cl := T.cl_Reader
  have n1 := T.no_Reader_text
  have n2 := T.no_Reader_tokens
  have n3 := T.no_Reader_at
  have n4 := T.no_Reader_depth
  have eO : ∀ p d, rdOb K x dx t p d = insOb K T.a_Reader x dx (rdF t p d) := fun p d => by unfold rdOb; rw [rd_cls T]
  rw [eO]
  rw [eO] at q
  have he := List.getElem?_eq_getElem (show p - 1 < (ksT t).length by omega)
  generalize (ksT t)[p - 1] = k at he
  have hd := ks_at he
  unfold tkD at hd
  have e : lend (ksT t) p = k.b := by unfold lend; rw [he]
  rw [e] at q
  repeat array_get_dec
  refine xr_ixL isl_d (atD_of (j := p - 1) (by omega) hd) ?_
  repeat array_get_dec
  refine xr_ixT (atD_of (j := 2) rfl rfl) ?_
  repeat array_get_dec
  exact q
theorem ok_Reader_finish (T : Txt K mg) (G_Reader_need : FnOk P w K mg base (L2N.CX P w) 3 T.a_Reader_need T.fd_Reader_need ["self", "condition"] (spD K (S_Reader_need K))) : FnOk P w K mg base (L2N.CX P w) 4 T.a_Reader_finish T.fd_Reader_finish ["self"] (spD K (S_Reader_finish K)) := by
  refine fnDXN T.F_Reader_finish sc_Reader_finish ?len fun cdv A outer s H E hr => ?body
  case len => intro dvs o R X h; first | (obtain ⟨rfl, _⟩ := h; rfl) | (obtain ⟨_, rfl, _⟩ := h; rfl) | (obtain ⟨_, _, rfl, _⟩ := h; rfl) | (obtain ⟨_, _, _, rfl, _⟩ := h; rfl) | (obtain ⟨_, _, _, _, rfl, _⟩ := h; rfl) | (obtain ⟨_, _, _, _, _, rfl, _⟩ := h; rfl) | (obtain ⟨_, _, _, _, _, _, rfl, _⟩ := h; rfl) | (obtain ⟨_, _, _, _, _, _, _, rfl, _⟩ := h; rfl) | (obtain ⟨_, _, _, _, _, _, _, _, rfl, _⟩ := h; rfl) | (obtain ⟨_, _, _, _, _, _, _, _, _, rfl, _⟩ := h; rfl) | (obtain ⟨_, _, _, _, _, _, _, _, _, _, rfl, _⟩ := h; rfl) | (obtain ⟨_, _, _, _, _, _, _, _, _, _, _, rfl, _⟩ := h; rfl) | (obtain ⟨_, _, _, _, _, _, _, _, _, _, _, _, rfl, _⟩ := h; rfl)
  have nd := sc_Reader_finish.nd
  have hu := hu_of hr
  refine ⟨_, (pss_one (ps_expr (DL.pe_methW (pv 0) T.cl_Reader T.m_Reader_need G_Reader_need (hr.mono (by first | decide | omega)) T.b_Reader_need (fun σ => L2N.passAt (L2N.takes_of rfl rfl rfl rfl) σ) (pa_cons (pe_cmpR (op_ge) (DL.pe_fldK (K := K) rfl (pv 0) rfl) (pe_callB (DL.call_lenK (K := K) rfl) (by rfl) T.n_len (by decide +kernel) (pa_cons (DL.pe_fldK (K := K) rfl (pv 0) rfl) pa_nil)) (nomark _)) pa_nil)))), ?_⟩
  intro dvs o R X h
  have st : ∀ z, dvs = z → startD N_Reader_finish.length dvs = startD 1 z := fun z e => by rw [e]; rfl
  obtain ⟨x, dx, t, p, d, rfl, rfl, ht, q⟩ := h
  rw [st _ rfl]; clear st; simp only [startD, toSl, List.map_cons, List.map_nil, List.length_cons, List.length_nil, List.cons_append, List.nil_append, List.append_nil, Nat.reduceAdd, Nat.reduceSub, List.reduceReplicate, Nat.zero_add, List.replicate_zero, Nat.sub_self]
  have hs : sizeLine = 16777216 := sizeLine_eq
  have cl := T.cl_Reader
  have n1 := T.no_Reader_text
  have n2 := T.no_Reader_tokens
  have n3 := T.no_Reader_at
  have n4 := T.no_Reader_depth
  have eO : ∀ p d, rdOb K x dx t p d = insOb K T.a_Reader x dx (rdF t p d) := fun p d => by unfold rdOb; rw [rd_cls T]
  rw [eO]
  have hkl := ks_len t
  repeat array_get_dec
  rw [hkl]
  have e : decide (((ksT t).length : Int) ≤ (p : Int)) = decide ((ksT t).length ≤ p) := decide_eq_decide.mpr (by omega)
  rw [e]
  refine ⟨x, dx, t, p, d, _, rfl, (eO _ _).symm, ht, ?_⟩
  exact q
theorem ok_Reader_mark (T : Txt K mg) (G_Reader_need : FnOk P w K mg base (L2N.CX P w) 3 T.a_Reader_need T.fd_Reader_need ["self", "condition"] (spD K (S_Reader_need K))) (G_Reader_place : FnOk P w K mg base CX0 1 T.a_Reader_place T.fd_Reader_place ["self"] (spD K (S_Reader_place K))) (G_Reader_sort_now : FnOk P w K mg base CX0 1 T.a_Reader_sort_now T.fd_Reader_sort_now ["self"] (spD K (S_Reader_sort_now K))) : FnOk P w K mg base (L2N.CX P w) 4 T.a_Reader_mark T.fd_Reader_mark ["self"] (spD K (S_Reader_mark K)) := by
  refine fnDXN T.F_Reader_mark sc_Reader_mark ?len fun cdv A outer s H E hr => ?body
  case len => intro dvs o R X h; first | (obtain ⟨rfl, _⟩ := h; rfl) | (obtain ⟨_, rfl, _⟩ := h; rfl) | (obtain ⟨_, _, rfl, _⟩ := h; rfl) | (obtain ⟨_, _, _, rfl, _⟩ := h; rfl) | (obtain ⟨_, _, _, _, rfl, _⟩ := h; rfl) | (obtain ⟨_, _, _, _, _, rfl, _⟩ := h; rfl) | (obtain ⟨_, _, _, _, _, _, rfl, _⟩ := h; rfl) | (obtain ⟨_, _, _, _, _, _, _, rfl, _⟩ := h; rfl) | (obtain ⟨_, _, _, _, _, _, _, _, rfl, _⟩ := h; rfl) | (obtain ⟨_, _, _, _, _, _, _, _, _, rfl, _⟩ := h; rfl) | (obtain ⟨_, _, _, _, _, _, _, _, _, _, rfl, _⟩ := h; rfl) | (obtain ⟨_, _, _, _, _, _, _, _, _, _, _, rfl, _⟩ := h; rfl) | (obtain ⟨_, _, _, _, _, _, _, _, _, _, _, _, rfl, _⟩ := h; rfl)
  have nd := sc_Reader_mark.nd
  have hu := hu_of hr
  refine ⟨_, (pss_cons (ps_expr (DL.pe_methW (pv 0) T.cl_Reader T.m_Reader_need G_Reader_need (hr.mono (by first | decide | omega)) T.b_Reader_need (fun σ => L2N.passAt (L2N.takes_of rfl rfl rfl rfl) σ) (pa_cons (pe_cmpR (DL.op_eqK (K := K) rfl hr.units) (pe_meth0 (pv 0) T.cl_Reader T.m_Reader_sort_now G_Reader_sort_now (hr.mono (by first | decide | omega)) T.b_Reader_sort_now .nil pass0) pe_str (nomark _)) pa_nil))) (pss_cons (ps_asg (pe_meth0 (pv 0) T.cl_Reader T.m_Reader_place G_Reader_place (hr.mono (by first | decide | omega)) T.b_Reader_place .nil pass0) (DL.pg_tupK (K := K) (n := 2) rfl (pg_tup (by rfl) (pgs_cons (pg_name (i := 1) nd rfl (Or.inl rfl)) (pgs_cons (pg_name (i := 2) nd rfl (Or.inl rfl)) pgs_nil))))) (pss_cons (DL.ps_fldaugK (K := K) rfl (pv 0) pe_int in_add) (pss_one (ps_ret (pe_tup (pa_cons (pe_slice (DL.sl_K (K := K) rfl) (DL.pe_fldK (K := K) rfl (pv 0) rfl) (po_some (pv 1)) (po_some (pv 2))) (pa_cons (pv 1) pa_nil)))))))), ?_⟩
  intro dvs o R X h
  have st : ∀ z, dvs = z → startD N_Reader_mark.length dvs = startD 3 z := fun z e => by rw [e]; rfl
  obtain ⟨x, dx, t, p, d, rfl, rfl, ht, q⟩ := h
  rw [st _ rfl]; clear st; simp only [startD, toSl, List.map_cons, List.map_nil, List.length_cons, List.length_nil, List.cons_append, List.nil_append, List.append_nil, Nat.reduceAdd, Nat.reduceSub, List.reduceReplicate, Nat.zero_add, List.replicate_zero, Nat.sub_self]
  have hs : sizeLine = 16777216 := sizeLine_eq
  have cl := T.cl_Reader
  have n1 := T.no_Reader_text
  have n2 := T.no_Reader_tokens
  have n3 := T.no_Reader_at
  have n4 := T.no_Reader_depth
  have eO : ∀ p d, rdOb K x dx t p d = insOb K T.a_Reader x dx (rdF t p d) := fun p d => by unfold rdOb; rw [rd_cls T]
  rw [eO]
  repeat array_get_dec
  refine ⟨x, dx, t, p, d, rfl, (eO _ _).symm, ht, ?_⟩
  repeat array_get_dec
  refine ⟨x, dx, t, p, d, decide (srt (ksT t) p = "name"), rfl, (eO _ _).symm, ht, ?_⟩
  by_cases h1 : srt (ksT t) p = "name"
  · rw [decide_eq_true h1]
    have e : markR t (ksT t) p d = .ok (cutN t (plc (ksT t) p).1 (plc (ksT t) p).2, (plc (ksT t) p).1) (p + 1) d := if_pos h1
    rw [e] at q
    have q : R (.d (.tuple [.str (cutN t (plc (ksT t) p).1 (plc (ksT t) p).2), nI (plc (ksT t) p).1])) (rdOb K x dx t (p + 1) d) := q
    rw [eO] at q
    refine rds_ok (v := ()) ?_
    rw [eO]
    repeat array_get_dec
    refine ⟨x, dx, t, p, d, rfl, (eO _ _).symm, ht, ?_⟩
    repeat array_get_dec
    refine xsl_S (by omega) ?_
    repeat array_get_dec
    exact q
  · rw [decide_eq_false h1]
    have e : markR t (ksT t) p d = .bad (plc (ksT t) p).1 (plc (ksT t) p).2 := if_neg h1
    rw [e] at q
    exact q
theorem ok_Reader_begin (T : Txt K mg) (G_Reader_need : FnOk P w K mg base (L2N.CX P w) 3 T.a_Reader_need T.fd_Reader_need ["self", "condition"] (spD K (S_Reader_need K))) (G_Reader_place : FnOk P w K mg base CX0 1 T.a_Reader_place T.fd_Reader_place ["self"] (spD K (S_Reader_place K))) : FnOk P w K mg base (L2N.CX P w) 4 T.a_Reader_begin T.fd_Reader_begin ["self"] (spD K (S_Reader_begin K)) := by
  refine fnDXN T.F_Reader_begin sc_Reader_begin ?len fun cdv A outer s H E hr => ?body
  case len => intro dvs o R X h; first | (obtain ⟨rfl, _⟩ := h; rfl) | (obtain ⟨_, rfl, _⟩ := h; rfl) | (obtain ⟨_, _, rfl, _⟩ := h; rfl) | (obtain ⟨_, _, _, rfl, _⟩ := h; rfl) | (obtain ⟨_, _, _, _, rfl, _⟩ := h; rfl) | (obtain ⟨_, _, _, _, _, rfl, _⟩ := h; rfl) | (obtain ⟨_, _, _, _, _, _, rfl, _⟩ := h; rfl) | (obtain ⟨_, _, _, _, _, _, _, rfl, _⟩ := h; rfl) | (obtain ⟨_, _, _, _, _, _, _, _, rfl, _⟩ := h; rfl) | (obtain ⟨_, _, _, _, _, _, _, _, _, rfl, _⟩ := h; rfl) | (obtain ⟨_, _, _, _, _, _, _, _, _, _, rfl, _⟩ := h; rfl) | (obtain ⟨_, _, _, _, _, _, _, _, _, _, _, rfl, _⟩ := h; rfl) | (obtain ⟨_, _, _, _, _, _, _, _, _, _, _, _, rfl, _⟩ := h; rfl)
  have nd := sc_Reader_begin.nd
  have hu := hu_of hr
  refine ⟨_, (pss_cons (ps_expr (DL.pe_methW (pv 0) T.cl_Reader T.m_Reader_need G_Reader_need (hr.mono (by first | decide | omega)) T.b_Reader_need (fun σ => L2N.passAt (L2N.takes_of rfl rfl rfl rfl) σ) (pa_cons (pe_cmpR (DL.op_ltU) (DL.pe_fldK (K := K) rfl (pv 0) rfl) (pe_glob (v := .int 30) (by rfl) (T.c_MOST_DEPTH).choose_spec ⟨_, rfl⟩) (nomark _)) pa_nil))) (pss_cons (DL.ps_fldaugK (K := K) rfl (pv 0) pe_int in_add) (pss_one (ps_ret (pe_ix (DL.ix_K (K := K) rfl) (pe_meth0 (pv 0) T.cl_Reader T.m_Reader_place G_Reader_place (hr.mono (by first | decide | omega)) T.b_Reader_place .nil pass0) pe_int (fun _ _ => rfl)))))), ?_⟩
  intro dvs o R X h
  have st : ∀ z, dvs = z → startD N_Reader_begin.length dvs = startD 1 z := fun z e => by rw [e]; rfl
  obtain ⟨x, dx, t, p, d, rfl, rfl, ht, q⟩ := h
  rw [st _ rfl]; clear st; simp only [startD, toSl, List.map_cons, List.map_nil, List.length_cons, List.length_nil, List.cons_append, List.nil_append, List.append_nil, Nat.reduceAdd, Nat.reduceSub, List.reduceReplicate, Nat.zero_add, List.replicate_zero, Nat.sub_self]
  have hs : sizeLine = 16777216 := sizeLine_eq
  have cl := T.cl_Reader
  have n1 := T.no_Reader_text
  have n2 := T.no_Reader_tokens
  have n3 := T.no_Reader_at
  have n4 := T.no_Reader_depth
  have eO : ∀ p d, rdOb K x dx t p d = insOb K T.a_Reader x dx (rdF t p d) := fun p d => by unfold rdOb; rw [rd_cls T]
  rw [eO]
  repeat array_get_dec
  refine ⟨x, dx, t, p, d, decide (d < 30), by rw [show decide (d < 30) = decide ((d : Int) < 30) from decide_eq_decide.mpr (by omega)], (eO _ _).symm, ht, ?_⟩
  by_cases h1 : d < 30
  · rw [decide_eq_true h1]
    have e : beginR (ksT t) p d = .ok (plc (ksT t) p).1 p (d + 1) := if_pos h1
    rw [e] at q
    have q : R (.d (nI (plc (ksT t) p).1)) (rdOb K x dx t p (d + 1)) := q
    rw [eO] at q
    refine rds_ok (v := ()) ?_
    rw [eO]
    repeat array_get_dec
    refine ⟨x, dx, t, p, d + 1, rfl, (eO _ _).symm, ht, ?_⟩
    repeat array_get_dec
    refine xr_ixT (atD_of (j := 0) rfl rfl) ?_
    repeat array_get_dec
    exact q
  · rw [decide_eq_false h1]
    have e : beginR (ksT t) p d = .bad (plc (ksT t) p).1 (plc (ksT t) p).2 := if_neg h1
    rw [e] at q
    exact q
theorem ok_Reader_let_value (T : Txt K mg) (n : Nat) (G_Reader_take : FnOk P w K mg base (L2N.CX P w) 4 T.a_Reader_take T.fd_Reader_take ["self", "expected"] (spD K (S_Reader_take K))) (G_Reader_mark : FnOk P w K mg base (L2N.CX P w) 4 T.a_Reader_mark T.fd_Reader_mark ["self"] (spD K (S_Reader_mark K))) (G_Reader_value : FnOk P w K mg base (L2N.CX P w) (n + 6) T.a_Reader_value T.fd_Reader_value ["self"] (spD K (S_Reader_value n K))) (G_Reader_last_end : FnOk P w K mg base CX0 1 T.a_Reader_last_end T.fd_Reader_last_end ["self"] (spD K (S_Reader_last_end K))) : FnOk P w K mg base (L2N.CX P w) (n + 7) T.a_Reader_let_value T.fd_Reader_let_value ["self", "start"] (spD K (S_Reader_let_value (n + 1) K)) := by
  refine fnDXN T.F_Reader_let_value sc_Reader_let_value ?len fun cdv A outer s H E hr => ?body
  case len => intro dvs o R X h; first | (obtain ⟨rfl, _⟩ := h; rfl) | (obtain ⟨_, rfl, _⟩ := h; rfl) | (obtain ⟨_, _, rfl, _⟩ := h; rfl) | (obtain ⟨_, _, _, rfl, _⟩ := h; rfl) | (obtain ⟨_, _, _, _, rfl, _⟩ := h; rfl) | (obtain ⟨_, _, _, _, _, rfl, _⟩ := h; rfl) | (obtain ⟨_, _, _, _, _, _, rfl, _⟩ := h; rfl) | (obtain ⟨_, _, _, _, _, _, _, rfl, _⟩ := h; rfl) | (obtain ⟨_, _, _, _, _, _, _, _, rfl, _⟩ := h; rfl) | (obtain ⟨_, _, _, _, _, _, _, _, _, rfl, _⟩ := h; rfl) | (obtain ⟨_, _, _, _, _, _, _, _, _, _, rfl, _⟩ := h; rfl) | (obtain ⟨_, _, _, _, _, _, _, _, _, _, _, rfl, _⟩ := h; rfl) | (obtain ⟨_, _, _, _, _, _, _, _, _, _, _, _, rfl, _⟩ := h; rfl)
  have nd := sc_Reader_let_value.nd
  have hu := hu_of hr
  refine ⟨_, (pss_cons (ps_expr (DL.pe_methW (pv 0) T.cl_Reader T.m_Reader_take G_Reader_take (hr.mono (by first | decide | omega)) T.b_Reader_take (fun σ => L2N.passAt (L2N.takes_of rfl rfl rfl rfl) σ) (pa_cons pe_str pa_nil))) (pss_cons (ps_asg (DL.pe_methW0 (pv 0) T.cl_Reader T.m_Reader_mark G_Reader_mark (hr.mono (by first | decide | omega)) T.b_Reader_mark (fun σ => L2N.passAt (L2N.takes_of rfl rfl rfl rfl) σ)) (DL.pg_tupK (K := K) (n := 2) rfl (pg_tup (by rfl) (pgs_cons (pg_name (i := 2) nd rfl (Or.inl rfl)) (pgs_cons (pg_name (i := 3) nd rfl (Or.inl rfl)) pgs_nil))))) (pss_cons (ps_expr (DL.pe_methW (pv 0) T.cl_Reader T.m_Reader_take G_Reader_take (hr.mono (by first | decide | omega)) T.b_Reader_take (fun σ => L2N.passAt (L2N.takes_of rfl rfl rfl rfl) σ) (pa_cons pe_str pa_nil))) (pss_cons (ps_set (i := 4) nd rfl (Or.inl rfl) (DL.pe_methW0 (pv 0) T.cl_Reader T.m_Reader_value G_Reader_value (hr.mono (by first | decide | omega)) T.b_Reader_value (fun σ => L2N.passAt (L2N.takes_of rfl rfl rfl rfl) σ))) (pss_cons (ps_expr (DL.pe_methW (pv 0) T.cl_Reader T.m_Reader_take G_Reader_take (hr.mono (by first | decide | omega)) T.b_Reader_take (fun σ => L2N.passAt (L2N.takes_of rfl rfl rfl rfl) σ) (pa_cons pe_str pa_nil))) (pss_cons (ps_set (i := 5) nd rfl (Or.inl rfl) (DL.pe_methW0 (pv 0) T.cl_Reader T.m_Reader_value G_Reader_value (hr.mono (by first | decide | omega)) T.b_Reader_value (fun σ => L2N.passAt (L2N.takes_of rfl rfl rfl rfl) σ))) (pss_one (ps_ret (pe_tup (pa_cons pe_str (pa_cons (pv 1) (pa_cons (pe_meth0 (pv 0) T.cl_Reader T.m_Reader_last_end G_Reader_last_end (hr.mono (by first | decide | omega)) T.b_Reader_last_end .nil pass0) (pa_cons (pv 2) (pa_cons (pv 3) (pa_cons (pv 4) (pa_cons (pv 5) pa_nil)))))))))))))))), ?_⟩
  intro dvs o R X h
  have st : ∀ z, dvs = z → startD N_Reader_let_value.length dvs = startD 6 z := fun z e => by rw [e]; rfl
  obtain ⟨x, dx, t, p, d, st, rfl, rfl, ht, hp, m, hm, q⟩ := h
  rw [st _ rfl]; clear st; simp only [startD, toSl, List.map_cons, List.map_nil, List.length_cons, List.length_nil, List.cons_append, List.nil_append, List.append_nil, Nat.reduceAdd, Nat.reduceSub, List.reduceReplicate, Nat.zero_add, List.replicate_zero, Nat.sub_self]
  have hs : sizeLine = 16777216 := sizeLine_eq
  have cl := T.cl_Reader
  have n1 := T.no_Reader_text
  have n2 := T.no_Reader_tokens
  have n3 := T.no_Reader_at
  have n4 := T.no_Reader_depth
  have eO : ∀ p d, rdOb K x dx t p d = insOb K T.a_Reader x dx (rdF t p d) := fun p d => by unfold rdOb; rw [rd_cls T]
  rw [eO]
  cases m with
  | zero => exact q.elim
  | succ m =>
  repeat array_get_dec
  refine ⟨x, dx, t, p, d, _, rfl, (eO _ _).symm, ht, rds_bind q (fun _ p1 d1 e1 q => ?_) fun _ _ h => h⟩
  have k1 := takeR_ok (by decide +kernel) e1
  rw [eO]
  repeat array_get_dec
  refine ⟨x, dx, t, p1, d1, rfl, (eO _ _).symm, ht, rds_bind q (fun m2 p2 d2 e2 q => ?_) fun _ _ h => h⟩
  have k2 := markR_ok e2
  rw [eO]
  repeat array_get_dec
  refine ⟨x, dx, t, p2, d2, _, rfl, (eO _ _).symm, ht, rds_bind q (fun _ p3 d3 e3 q => ?_) fun _ _ h => h⟩
  have k3 := takeR_ok (by decide +kernel) e3
  rw [eO]
  repeat array_get_dec
  refine ⟨x, dx, t, p3, d3, rfl, (eO _ _).symm, ht, by omega, m, by omega, rds_bind q (fun a4 p4 d4 e4 q => ?_) fun _ _ h => h⟩
  have k4 := pr_inv _ _ _ _ _ _ _ e4
  unfold Fwd at k4
  rw [eO]
  repeat array_get_dec
  refine ⟨x, dx, t, p4, d4, _, rfl, (eO _ _).symm, ht, rds_bind q (fun _ p5 d5 e5 q => ?_) fun _ _ h => h⟩
  have k5 := takeR_ok (by decide +kernel) e5
  rw [eO]
  repeat array_get_dec
  refine ⟨x, dx, t, p5, d5, rfl, (eO _ _).symm, ht, by omega, m, by omega, rds_bind q (fun a6 p6 d6 e6 q => ?_) fun _ _ h => h⟩
  have k6 := pr_inv _ _ _ _ _ _ _ e6
  unfold Fwd at k6
  rw [eO]
  have q : R (.d _) (rdOb K x dx t p6 d6) := q
  rw [eO] at q
  repeat array_get_dec
  refine ⟨x, dx, t, p6, d6, rfl, (eO _ _).symm, ht, by omega, by omega, ?_⟩
  repeat array_get_dec
  exact q
theorem ok_Reader_if_value (T : Txt K mg) (n : Nat) (G_Reader_take : FnOk P w K mg base (L2N.CX P w) 4 T.a_Reader_take T.fd_Reader_take ["self", "expected"] (spD K (S_Reader_take K))) (G_Reader_value : FnOk P w K mg base (L2N.CX P w) (n + 6) T.a_Reader_value T.fd_Reader_value ["self"] (spD K (S_Reader_value n K))) (G_Reader_last_end : FnOk P w K mg base CX0 1 T.a_Reader_last_end T.fd_Reader_last_end ["self"] (spD K (S_Reader_last_end K))) : FnOk P w K mg base (L2N.CX P w) (n + 7) T.a_Reader_if_value T.fd_Reader_if_value ["self", "start"] (spD K (S_Reader_if_value (n + 1) K)) := by
  refine fnDXN T.F_Reader_if_value sc_Reader_if_value ?len fun cdv A outer s H E hr => ?body
  case len => intro dvs o R X h; first | (obtain ⟨rfl, _⟩ := h; rfl) | (obtain ⟨_, rfl, _⟩ := h; rfl) | (obtain ⟨_, _, rfl, _⟩ := h; rfl) | (obtain ⟨_, _, _, rfl, _⟩ := h; rfl) | (obtain ⟨_, _, _, _, rfl, _⟩ := h; rfl) | (obtain ⟨_, _, _, _, _, rfl, _⟩ := h; rfl) | (obtain ⟨_, _, _, _, _, _, rfl, _⟩ := h; rfl) | (obtain ⟨_, _, _, _, _, _, _, rfl, _⟩ := h; rfl) | (obtain ⟨_, _, _, _, _, _, _, _, rfl, _⟩ := h; rfl) | (obtain ⟨_, _, _, _, _, _, _, _, _, rfl, _⟩ := h; rfl) | (obtain ⟨_, _, _, _, _, _, _, _, _, _, rfl, _⟩ := h; rfl) | (obtain ⟨_, _, _, _, _, _, _, _, _, _, _, rfl, _⟩ := h; rfl) | (obtain ⟨_, _, _, _, _, _, _, _, _, _, _, _, rfl, _⟩ := h; rfl)
  have nd := sc_Reader_if_value.nd
  have hu := hu_of hr
  refine ⟨_, (pss_cons (ps_expr (DL.pe_methW (pv 0) T.cl_Reader T.m_Reader_take G_Reader_take (hr.mono (by first | decide | omega)) T.b_Reader_take (fun σ => L2N.passAt (L2N.takes_of rfl rfl rfl rfl) σ) (pa_cons pe_str pa_nil))) (pss_cons (ps_set (i := 2) nd rfl (Or.inl rfl) (DL.pe_methW0 (pv 0) T.cl_Reader T.m_Reader_value G_Reader_value (hr.mono (by first | decide | omega)) T.b_Reader_value (fun σ => L2N.passAt (L2N.takes_of rfl rfl rfl rfl) σ))) (pss_cons (ps_expr (DL.pe_methW (pv 0) T.cl_Reader T.m_Reader_take G_Reader_take (hr.mono (by first | decide | omega)) T.b_Reader_take (fun σ => L2N.passAt (L2N.takes_of rfl rfl rfl rfl) σ) (pa_cons pe_str pa_nil))) (pss_cons (ps_set (i := 3) nd rfl (Or.inl rfl) (DL.pe_methW0 (pv 0) T.cl_Reader T.m_Reader_value G_Reader_value (hr.mono (by first | decide | omega)) T.b_Reader_value (fun σ => L2N.passAt (L2N.takes_of rfl rfl rfl rfl) σ))) (pss_cons (ps_expr (DL.pe_methW (pv 0) T.cl_Reader T.m_Reader_take G_Reader_take (hr.mono (by first | decide | omega)) T.b_Reader_take (fun σ => L2N.passAt (L2N.takes_of rfl rfl rfl rfl) σ) (pa_cons pe_str pa_nil))) (pss_cons (ps_set (i := 4) nd rfl (Or.inl rfl) (DL.pe_methW0 (pv 0) T.cl_Reader T.m_Reader_value G_Reader_value (hr.mono (by first | decide | omega)) T.b_Reader_value (fun σ => L2N.passAt (L2N.takes_of rfl rfl rfl rfl) σ))) (pss_one (ps_ret (pe_tup (pa_cons pe_str (pa_cons (pv 1) (pa_cons (pe_meth0 (pv 0) T.cl_Reader T.m_Reader_last_end G_Reader_last_end (hr.mono (by first | decide | omega)) T.b_Reader_last_end .nil pass0) (pa_cons (pv 2) (pa_cons (pv 3) (pa_cons (pv 4) pa_nil))))))))))))))), ?_⟩
  intro dvs o R X h
  have st : ∀ z, dvs = z → startD N_Reader_if_value.length dvs = startD 5 z := fun z e => by rw [e]; rfl
  obtain ⟨x, dx, t, p, d, st, rfl, rfl, ht, hp, m, hm, q⟩ := h
  rw [st _ rfl]; clear st; simp only [startD, toSl, List.map_cons, List.map_nil, List.length_cons, List.length_nil, List.cons_append, List.nil_append, List.append_nil, Nat.reduceAdd, Nat.reduceSub, List.reduceReplicate, Nat.zero_add, List.replicate_zero, Nat.sub_self]
  have hs : sizeLine = 16777216 := sizeLine_eq
  have cl := T.cl_Reader
  have n1 := T.no_Reader_text
  have n2 := T.no_Reader_tokens
  have n3 := T.no_Reader_at
  have n4 := T.no_Reader_depth
  have eO : ∀ p d, rdOb K x dx t p d = insOb K T.a_Reader x dx (rdF t p d) := fun p d => by unfold rdOb; rw [rd_cls T]
  rw [eO]
  cases m with
  | zero => exact q.elim
  | succ m =>
  repeat array_get_dec
  refine ⟨x, dx, t, p, d, _, rfl, (eO _ _).symm, ht, rds_bind q (fun _ p1 d1 e1 q => ?_) fun _ _ h => h⟩
  have k1 := takeR_ok (by decide +kernel) e1
  rw [eO]
  repeat array_get_dec
  refine ⟨x, dx, t, p1, d1, rfl, (eO _ _).symm, ht, by omega, m, by omega, rds_bind q (fun a2 p2 d2 e2 q => ?_) fun _ _ h => h⟩
  have k2 := pr_inv _ _ _ _ _ _ _ e2
  unfold Fwd at k2
  rw [eO]
  repeat array_get_dec
  refine ⟨x, dx, t, p2, d2, _, rfl, (eO _ _).symm, ht, rds_bind q (fun _ p3 d3 e3 q => ?_) fun _ _ h => h⟩
  have k3 := takeR_ok (by decide +kernel) e3
  rw [eO]
  repeat array_get_dec
  refine ⟨x, dx, t, p3, d3, rfl, (eO _ _).symm, ht, by omega, m, by omega, rds_bind q (fun a4 p4 d4 e4 q => ?_) fun _ _ h => h⟩
  have k4 := pr_inv _ _ _ _ _ _ _ e4
  unfold Fwd at k4
  rw [eO]
  repeat array_get_dec
  refine ⟨x, dx, t, p4, d4, _, rfl, (eO _ _).symm, ht, rds_bind q (fun _ p5 d5 e5 q => ?_) fun _ _ h => h⟩
  have k5 := takeR_ok (by decide +kernel) e5
  rw [eO]
  repeat array_get_dec
  refine ⟨x, dx, t, p5, d5, rfl, (eO _ _).symm, ht, by omega, m, by omega, rds_bind q (fun a6 p6 d6 e6 q => ?_) fun _ _ h => h⟩
  have k6 := pr_inv _ _ _ _ _ _ _ e6
  unfold Fwd at k6
  rw [eO]
  have q : R (.d _) (rdOb K x dx t p6 d6) := q
  rw [eO] at q
  repeat array_get_dec
  refine ⟨x, dx, t, p6, d6, rfl, (eO _ _).symm, ht, by omega, by omega, ?_⟩
  repeat array_get_dec
  exact q
theorem ok_Reader_loop_value (T : Txt K mg) (n : Nat) (G_Reader_take : FnOk P w K mg base (L2N.CX P w) 4 T.a_Reader_take T.fd_Reader_take ["self", "expected"] (spD K (S_Reader_take K))) (G_Reader_mark : FnOk P w K mg base (L2N.CX P w) 4 T.a_Reader_mark T.fd_Reader_mark ["self"] (spD K (S_Reader_mark K))) (G_Reader_value : FnOk P w K mg base (L2N.CX P w) (n + 6) T.a_Reader_value T.fd_Reader_value ["self"] (spD K (S_Reader_value n K))) (G_Reader_last_end : FnOk P w K mg base CX0 1 T.a_Reader_last_end T.fd_Reader_last_end ["self"] (spD K (S_Reader_last_end K))) : FnOk P w K mg base (L2N.CX P w) (n + 7) T.a_Reader_loop_value T.fd_Reader_loop_value ["self", "start"] (spD K (S_Reader_loop_value (n + 1) K)) := by
  refine fnDXN T.F_Reader_loop_value sc_Reader_loop_value ?len fun cdv A outer s H E hr => ?body
  case len => intro dvs o R X h; first | (obtain ⟨rfl, _⟩ := h; rfl) | (obtain ⟨_, rfl, _⟩ := h; rfl) | (obtain ⟨_, _, rfl, _⟩ := h; rfl) | (obtain ⟨_, _, _, rfl, _⟩ := h; rfl) | (obtain ⟨_, _, _, _, rfl, _⟩ := h; rfl) | (obtain ⟨_, _, _, _, _, rfl, _⟩ := h; rfl) | (obtain ⟨_, _, _, _, _, _, rfl, _⟩ := h; rfl) | (obtain ⟨_, _, _, _, _, _, _, rfl, _⟩ := h; rfl) | (obtain ⟨_, _, _, _, _, _, _, _, rfl, _⟩ := h; rfl) | (obtain ⟨_, _, _, _, _, _, _, _, _, rfl, _⟩ := h; rfl) | (obtain ⟨_, _, _, _, _, _, _, _, _, _, rfl, _⟩ := h; rfl) | (obtain ⟨_, _, _, _, _, _, _, _, _, _, _, rfl, _⟩ := h; rfl) | (obtain ⟨_, _, _, _, _, _, _, _, _, _, _, _, rfl, _⟩ := h; rfl)
  have nd := sc_Reader_loop_value.nd
  have hu := hu_of hr
  refine ⟨_, (pss_cons (ps_expr (DL.pe_methW (pv 0) T.cl_Reader T.m_Reader_take G_Reader_take (hr.mono (by first | decide | omega)) T.b_Reader_take (fun σ => L2N.passAt (L2N.takes_of rfl rfl rfl rfl) σ) (pa_cons pe_str pa_nil))) (pss_cons (ps_asg (DL.pe_methW0 (pv 0) T.cl_Reader T.m_Reader_mark G_Reader_mark (hr.mono (by first | decide | omega)) T.b_Reader_mark (fun σ => L2N.passAt (L2N.takes_of rfl rfl rfl rfl) σ)) (DL.pg_tupK (K := K) (n := 2) rfl (pg_tup (by rfl) (pgs_cons (pg_name (i := 2) nd rfl (Or.inl rfl)) (pgs_cons (pg_name (i := 3) nd rfl (Or.inl rfl)) pgs_nil))))) (pss_cons (ps_expr (DL.pe_methW (pv 0) T.cl_Reader T.m_Reader_take G_Reader_take (hr.mono (by first | decide | omega)) T.b_Reader_take (fun σ => L2N.passAt (L2N.takes_of rfl rfl rfl rfl) σ) (pa_cons pe_str pa_nil))) (pss_cons (ps_set (i := 4) nd rfl (Or.inl rfl) (DL.pe_methW0 (pv 0) T.cl_Reader T.m_Reader_value G_Reader_value (hr.mono (by first | decide | omega)) T.b_Reader_value (fun σ => L2N.passAt (L2N.takes_of rfl rfl rfl rfl) σ))) (pss_cons (ps_expr (DL.pe_methW (pv 0) T.cl_Reader T.m_Reader_take G_Reader_take (hr.mono (by first | decide | omega)) T.b_Reader_take (fun σ => L2N.passAt (L2N.takes_of rfl rfl rfl rfl) σ) (pa_cons pe_str pa_nil))) (pss_cons (ps_set (i := 5) nd rfl (Or.inl rfl) (DL.pe_methW0 (pv 0) T.cl_Reader T.m_Reader_value G_Reader_value (hr.mono (by first | decide | omega)) T.b_Reader_value (fun σ => L2N.passAt (L2N.takes_of rfl rfl rfl rfl) σ))) (pss_cons (ps_expr (DL.pe_methW (pv 0) T.cl_Reader T.m_Reader_take G_Reader_take (hr.mono (by first | decide | omega)) T.b_Reader_take (fun σ => L2N.passAt (L2N.takes_of rfl rfl rfl rfl) σ) (pa_cons pe_str pa_nil))) (pss_cons (ps_set (i := 6) nd rfl (Or.inl rfl) (DL.pe_methW0 (pv 0) T.cl_Reader T.m_Reader_value G_Reader_value (hr.mono (by first | decide | omega)) T.b_Reader_value (fun σ => L2N.passAt (L2N.takes_of rfl rfl rfl rfl) σ))) (pss_one (ps_ret (pe_tup (pa_cons pe_str (pa_cons (pv 1) (pa_cons (pe_meth0 (pv 0) T.cl_Reader T.m_Reader_last_end G_Reader_last_end (hr.mono (by first | decide | omega)) T.b_Reader_last_end .nil pass0) (pa_cons (pv 2) (pa_cons (pv 3) (pa_cons (pv 4) (pa_cons (pv 5) (pa_cons (pv 6) pa_nil))))))))))))))))))), ?_⟩
  intro dvs o R X h
  have st : ∀ z, dvs = z → startD N_Reader_loop_value.length dvs = startD 7 z := fun z e => by rw [e]; rfl
  obtain ⟨x, dx, t, p, d, st, rfl, rfl, ht, hp, m, hm, q⟩ := h
  rw [st _ rfl]; clear st; simp only [startD, toSl, List.map_cons, List.map_nil, List.length_cons, List.length_nil, List.cons_append, List.nil_append, List.append_nil, Nat.reduceAdd, Nat.reduceSub, List.reduceReplicate, Nat.zero_add, List.replicate_zero, Nat.sub_self]
  have hs : sizeLine = 16777216 := sizeLine_eq
  have cl := T.cl_Reader
  have n1 := T.no_Reader_text
  have n2 := T.no_Reader_tokens
  have n3 := T.no_Reader_at
  have n4 := T.no_Reader_depth
  have eO : ∀ p d, rdOb K x dx t p d = insOb K T.a_Reader x dx (rdF t p d) := fun p d => by unfold rdOb; rw [rd_cls T]
  rw [eO]
  cases m with
  | zero => exact q.elim
  | succ m =>
  repeat array_get_dec
  refine ⟨x, dx, t, p, d, _, rfl, (eO _ _).symm, ht, rds_bind q (fun _ p1 d1 e1 q => ?_) fun _ _ h => h⟩
  have k1 := takeR_ok (by decide +kernel) e1
  rw [eO]
  repeat array_get_dec
  refine ⟨x, dx, t, p1, d1, rfl, (eO _ _).symm, ht, rds_bind q (fun m2 p2 d2 e2 q => ?_) fun _ _ h => h⟩
  have k2 := markR_ok e2
  rw [eO]
  repeat array_get_dec
  refine ⟨x, dx, t, p2, d2, _, rfl, (eO _ _).symm, ht, rds_bind q (fun _ p3 d3 e3 q => ?_) fun _ _ h => h⟩
  have k3 := takeR_ok (by decide +kernel) e3
  rw [eO]
  repeat array_get_dec
  refine ⟨x, dx, t, p3, d3, rfl, (eO _ _).symm, ht, by omega, m, by omega, rds_bind q (fun a4 p4 d4 e4 q => ?_) fun _ _ h => h⟩
  have k4 := pr_inv _ _ _ _ _ _ _ e4
  unfold Fwd at k4
  rw [eO]
  repeat array_get_dec
  refine ⟨x, dx, t, p4, d4, _, rfl, (eO _ _).symm, ht, rds_bind q (fun _ p5 d5 e5 q => ?_) fun _ _ h => h⟩
  have k5 := takeR_ok (by decide +kernel) e5
  rw [eO]
  repeat array_get_dec
  refine ⟨x, dx, t, p5, d5, rfl, (eO _ _).symm, ht, by omega, m, by omega, rds_bind q (fun a6 p6 d6 e6 q => ?_) fun _ _ h => h⟩
  have k6 := pr_inv _ _ _ _ _ _ _ e6
  unfold Fwd at k6
  rw [eO]
  repeat array_get_dec
  refine ⟨x, dx, t, p6, d6, _, rfl, (eO _ _).symm, ht, rds_bind q (fun _ p7 d7 e7 q => ?_) fun _ _ h => h⟩
  have k7 := takeR_ok (by decide +kernel) e7
  rw [eO]
  repeat array_get_dec
  refine ⟨x, dx, t, p7, d7, rfl, (eO _ _).symm, ht, by omega, m, by omega, rds_bind q (fun a8 p8 d8 e8 q => ?_) fun _ _ h => h⟩
  have k8 := pr_inv _ _ _ _ _ _ _ e8
  unfold Fwd at k8
  rw [eO]
  have q : R (.d _) (rdOb K x dx t p8 d8) := q
  rw [eO] at q
  repeat array_get_dec
  refine ⟨x, dx, t, p8, d8, rfl, (eO _ _).symm, ht, by omega, by omega, ?_⟩
  repeat array_get_dec
  exact q
theorem ok_Reader_value (T : Txt K mg) (n : Nat) (G_Reader_begin : FnOk P w K mg base (L2N.CX P w) 4 T.a_Reader_begin T.fd_Reader_begin ["self"] (spD K (S_Reader_begin K))) (G_Reader_fixed : FnOk P w K mg base CX0 2 T.a_Reader_fixed T.fd_Reader_fixed ["self"] (spD K (S_Reader_fixed K))) (G_Reader_let_value : FnOk P w K mg base (L2N.CX P w) (n + 6) T.a_Reader_let_value T.fd_Reader_let_value ["self", "start"] (spD K (S_Reader_let_value n K))) (G_Reader_if_value : FnOk P w K mg base (L2N.CX P w) (n + 6) T.a_Reader_if_value T.fd_Reader_if_value ["self", "start"] (spD K (S_Reader_if_value n K))) (G_Reader_loop_value : FnOk P w K mg base (L2N.CX P w) (n + 6) T.a_Reader_loop_value T.fd_Reader_loop_value ["self", "start"] (spD K (S_Reader_loop_value n K))) (G_Reader_either : FnOk P w K mg base (L2N.CX P w) (n + 6) T.a_Reader_either T.fd_Reader_either ["self", "level"] (spD K (S_Reader_either n K))) : FnOk P w K mg base (L2N.CX P w) (n + 7) T.a_Reader_value T.fd_Reader_value ["self"] (spD K (S_Reader_value (n + 1) K)) := by
  refine fnDXN T.F_Reader_value sc_Reader_value ?len fun cdv A outer s H E hr => ?body
  case len => intro dvs o R X h; first | (obtain ⟨rfl, _⟩ := h; rfl) | (obtain ⟨_, rfl, _⟩ := h; rfl) | (obtain ⟨_, _, rfl, _⟩ := h; rfl) | (obtain ⟨_, _, _, rfl, _⟩ := h; rfl) | (obtain ⟨_, _, _, _, rfl, _⟩ := h; rfl) | (obtain ⟨_, _, _, _, _, rfl, _⟩ := h; rfl) | (obtain ⟨_, _, _, _, _, _, rfl, _⟩ := h; rfl) | (obtain ⟨_, _, _, _, _, _, _, rfl, _⟩ := h; rfl) | (obtain ⟨_, _, _, _, _, _, _, _, rfl, _⟩ := h; rfl) | (obtain ⟨_, _, _, _, _, _, _, _, _, rfl, _⟩ := h; rfl) | (obtain ⟨_, _, _, _, _, _, _, _, _, _, rfl, _⟩ := h; rfl) | (obtain ⟨_, _, _, _, _, _, _, _, _, _, _, rfl, _⟩ := h; rfl) | (obtain ⟨_, _, _, _, _, _, _, _, _, _, _, _, rfl, _⟩ := h; rfl)
  have nd := sc_Reader_value.nd
  have hu := hu_of hr
  refine ⟨_, (pss_cons (ps_set (i := 1) nd rfl (Or.inl rfl) (DL.pe_methW0 (pv 0) T.cl_Reader T.m_Reader_begin G_Reader_begin (hr.mono (by first | decide | omega)) T.b_Reader_begin (fun σ => L2N.passAt (L2N.takes_of rfl rfl rfl rfl) σ))) (pss_cons (ps_if (pt_cmpR (DL.op_eqK (K := K) rfl hr.units) (pe_meth0 (pv 0) T.cl_Reader T.m_Reader_fixed G_Reader_fixed (hr.mono (by first | decide | omega)) T.b_Reader_fixed .nil pass0) pe_str (nomark _)) (pss_one (ps_set (i := 2) nd rfl (Or.inl rfl) (DL.pe_methW (pv 0) T.cl_Reader T.m_Reader_let_value G_Reader_let_value (hr.mono (by first | decide | omega)) T.b_Reader_let_value (fun σ => L2N.passAt (L2N.takes_of rfl rfl rfl rfl) σ) (pa_cons (pv 1) pa_nil)))) (pss_one (ps_if (pt_cmpR (DL.op_eqK (K := K) rfl hr.units) (pe_meth0 (pv 0) T.cl_Reader T.m_Reader_fixed G_Reader_fixed (hr.mono (by first | decide | omega)) T.b_Reader_fixed .nil pass0) pe_str (nomark _)) (pss_one (ps_set (i := 2) nd rfl (Or.inl rfl) (DL.pe_methW (pv 0) T.cl_Reader T.m_Reader_if_value G_Reader_if_value (hr.mono (by first | decide | omega)) T.b_Reader_if_value (fun σ => L2N.passAt (L2N.takes_of rfl rfl rfl rfl) σ) (pa_cons (pv 1) pa_nil)))) (pss_one (ps_if (pt_cmpR (DL.op_eqK (K := K) rfl hr.units) (pe_meth0 (pv 0) T.cl_Reader T.m_Reader_fixed G_Reader_fixed (hr.mono (by first | decide | omega)) T.b_Reader_fixed .nil pass0) pe_str (nomark _)) (pss_one (ps_set (i := 2) nd rfl (Or.inl rfl) (DL.pe_methW (pv 0) T.cl_Reader T.m_Reader_loop_value G_Reader_loop_value (hr.mono (by first | decide | omega)) T.b_Reader_loop_value (fun σ => L2N.passAt (L2N.takes_of rfl rfl rfl rfl) σ) (pa_cons (pv 1) pa_nil)))) (pss_one (ps_set (i := 2) nd rfl (Or.inl rfl) (DL.pe_methW (pv 0) T.cl_Reader T.m_Reader_either G_Reader_either (hr.mono (by first | decide | omega)) T.b_Reader_either (fun σ => L2N.passAt (L2N.takes_of rfl rfl rfl rfl) σ) (pa_cons pe_int pa_nil))))))))) (pss_cons (DL.ps_fldaugK (K := K) rfl (pv 0) pe_int in_sub) (pss_one (ps_ret (pv 2)))))), ?_⟩
  intro dvs o R X h
  have st : ∀ z, dvs = z → startD N_Reader_value.length dvs = startD 3 z := fun z e => by rw [e]; rfl
  obtain ⟨x, dx, t, p, d, rfl, rfl, ht, hp, m, hm, q⟩ := h
  rw [st _ rfl]; clear st; simp only [startD, toSl, List.map_cons, List.map_nil, List.length_cons, List.length_nil, List.cons_append, List.nil_append, List.append_nil, Nat.reduceAdd, Nat.reduceSub, List.reduceReplicate, Nat.zero_add, List.replicate_zero, Nat.sub_self]
  have hs : sizeLine = 16777216 := sizeLine_eq
  have cl := T.cl_Reader
  have n1 := T.no_Reader_text
  have n2 := T.no_Reader_tokens
  have n3 := T.no_Reader_at
  have n4 := T.no_Reader_depth
  have eO : ∀ p d, rdOb K x dx t p d = insOb K T.a_Reader x dx (rdF t p d) := fun p d => by unfold rdOb; rw [rd_cls T]
  rw [eO]
  cases m with
  | zero => exact q.elim
  | succ m =>
  repeat array_get_dec
  refine ⟨x, dx, t, p, d, rfl, (eO _ _).symm, ht, rds_bind q (fun st p1 d1 e1 q => ?_) fun _ _ h => h⟩
  obtain ⟨k1, k2, k3⟩ := beginR_ok e1
  subst k2
  subst p1
  rw [eO]
  repeat array_get_dec
  refine ⟨x, dx, t, p, d + 1, rfl, (eO _ _).symm, ht, ?_⟩
  repeat array_get_dec
  refine bs_d (fun c1 => ?_) fun c1 => ?_
  · rw [if_pos c1] at q
    repeat array_get_dec
    refine ⟨x, dx, t, p, d + 1, _, rfl, (eO _ _).symm, ht, by omega, m, by omega, rds_bind q (fun a p2 d2 e2 q => ?_) fun _ _ h => h⟩
    have k2 := pr_inv _ _ _ _ _ _ _ e2
    unfold Fwd at k2
    obtain ⟨rfl, k2, k3⟩ := k2
    have q : R (.d a.toD) (rdOb K x dx t p2 d) := q
    rw [eO] at q
    rw [eO]
    repeat array_get_dec
    exact q
  rw [if_neg c1] at q
  repeat array_get_dec
  refine ⟨x, dx, t, p, d + 1, rfl, (eO _ _).symm, ht, ?_⟩
  repeat array_get_dec
  refine bs_d (fun c2 => ?_) fun c2 => ?_
  · rw [if_pos c2] at q
    repeat array_get_dec
    refine ⟨x, dx, t, p, d + 1, _, rfl, (eO _ _).symm, ht, by omega, m, by omega, rds_bind q (fun a p2 d2 e2 q => ?_) fun _ _ h => h⟩
    have k2 := pr_inv _ _ _ _ _ _ _ e2
    unfold Fwd at k2
    obtain ⟨rfl, k2, k3⟩ := k2
    have q : R (.d a.toD) (rdOb K x dx t p2 d) := q
    rw [eO] at q
    rw [eO]
    repeat array_get_dec
    exact q
  rw [if_neg c2] at q
  repeat array_get_dec
  refine ⟨x, dx, t, p, d + 1, rfl, (eO _ _).symm, ht, ?_⟩
  repeat array_get_dec
  refine bs_d (fun c3 => ?_) fun c3 => ?_
  · rw [if_pos c3] at q
    repeat array_get_dec
    refine ⟨x, dx, t, p, d + 1, _, rfl, (eO _ _).symm, ht, by omega, m, by omega, rds_bind q (fun a p2 d2 e2 q => ?_) fun _ _ h => h⟩
    have k2 := pr_inv _ _ _ _ _ _ _ e2
    unfold Fwd at k2
    obtain ⟨rfl, k2, k3⟩ := k2
    have q : R (.d a.toD) (rdOb K x dx t p2 d) := q
    rw [eO] at q
    rw [eO]
    repeat array_get_dec
    exact q
  rw [if_neg c3] at q
  repeat array_get_dec
  refine ⟨x, dx, t, p, d + 1, 0, rfl, (eO _ _).symm, by omega, ht, by omega, m, by omega, rds_bind q (fun a p2 d2 e2 q => ?_) fun _ _ h => h⟩
  have k2 := pr_inv _ _ _ _ _ _ _ e2
  unfold Fwd at k2
  obtain ⟨rfl, k2, k3⟩ := k2
  have q : R (.d a.toD) (rdOb K x dx t p2 d) := q
  rw [eO] at q
  rw [eO]
  repeat array_get_dec
  exact q
theorem ok_Reader_negated (T : Txt K mg) (n : Nat) (G_Reader_fixed : FnOk P w K mg base CX0 2 T.a_Reader_fixed T.fd_Reader_fixed ["self"] (spD K (S_Reader_fixed K))) (G_Reader_compared : FnOk P w K mg base (L2N.CX P w) (n + 6) T.a_Reader_compared T.fd_Reader_compared ["self"] (spD K (S_Reader_compared n K))) (G_Reader_begin : FnOk P w K mg base (L2N.CX P w) 4 T.a_Reader_begin T.fd_Reader_begin ["self"] (spD K (S_Reader_begin K))) (G_Reader_take : FnOk P w K mg base (L2N.CX P w) 4 T.a_Reader_take T.fd_Reader_take ["self", "expected"] (spD K (S_Reader_take K))) (G_Reader_negated : FnOk P w K mg base (L2N.CX P w) (n + 6) T.a_Reader_negated T.fd_Reader_negated ["self"] (spD K (S_Reader_negated n K))) : FnOk P w K mg base (L2N.CX P w) (n + 7) T.a_Reader_negated T.fd_Reader_negated ["self"] (spD K (S_Reader_negated (n + 1) K)) := by
  refine fnDXN T.F_Reader_negated sc_Reader_negated ?len fun cdv A outer s H E hr => ?body
  case len => intro dvs o R X h; first | (obtain ⟨rfl, _⟩ := h; rfl) | (obtain ⟨_, rfl, _⟩ := h; rfl) | (obtain ⟨_, _, rfl, _⟩ := h; rfl) | (obtain ⟨_, _, _, rfl, _⟩ := h; rfl) | (obtain ⟨_, _, _, _, rfl, _⟩ := h; rfl) | (obtain ⟨_, _, _, _, _, rfl, _⟩ := h; rfl) | (obtain ⟨_, _, _, _, _, _, rfl, _⟩ := h; rfl) | (obtain ⟨_, _, _, _, _, _, _, rfl, _⟩ := h; rfl) | (obtain ⟨_, _, _, _, _, _, _, _, rfl, _⟩ := h; rfl) | (obtain ⟨_, _, _, _, _, _, _, _, _, rfl, _⟩ := h; rfl) | (obtain ⟨_, _, _, _, _, _, _, _, _, _, rfl, _⟩ := h; rfl) | (obtain ⟨_, _, _, _, _, _, _, _, _, _, _, rfl, _⟩ := h; rfl) | (obtain ⟨_, _, _, _, _, _, _, _, _, _, _, _, rfl, _⟩ := h; rfl)
  have nd := sc_Reader_negated.nd
  have hu := hu_of hr
  refine ⟨_, (pss_cons (ps_if (pt_cmpR (DL.op_neK (K := K) rfl hr.units) (pe_meth0 (pv 0) T.cl_Reader T.m_Reader_fixed G_Reader_fixed (hr.mono (by first | decide | omega)) T.b_Reader_fixed .nil pass0) pe_str (nomark _)) (pss_one (ps_ret (DL.pe_methW0 (pv 0) T.cl_Reader T.m_Reader_compared G_Reader_compared (hr.mono (by first | decide | omega)) T.b_Reader_compared (fun σ => L2N.passAt (L2N.takes_of rfl rfl rfl rfl) σ)))) pss_nil) (pss_cons (ps_set (i := 1) nd rfl (Or.inl rfl) (DL.pe_methW0 (pv 0) T.cl_Reader T.m_Reader_begin G_Reader_begin (hr.mono (by first | decide | omega)) T.b_Reader_begin (fun σ => L2N.passAt (L2N.takes_of rfl rfl rfl rfl) σ))) (pss_cons (ps_expr (DL.pe_methW (pv 0) T.cl_Reader T.m_Reader_take G_Reader_take (hr.mono (by first | decide | omega)) T.b_Reader_take (fun σ => L2N.passAt (L2N.takes_of rfl rfl rfl rfl) σ) (pa_cons pe_str pa_nil))) (pss_cons (ps_set (i := 2) nd rfl (Or.inl rfl) (DL.pe_methW0 (pv 0) T.cl_Reader T.m_Reader_negated G_Reader_negated (hr.mono (by first | decide | omega)) T.b_Reader_negated (fun σ => L2N.passAt (L2N.takes_of rfl rfl rfl rfl) σ))) (pss_cons (DL.ps_fldaugK (K := K) rfl (pv 0) pe_int in_sub) (pss_one (ps_ret (pe_tup (pa_cons pe_str (pa_cons (pv 1) (pa_cons (pe_ix (DL.ix_K (K := K) rfl) (pv 2) pe_int (fun _ _ => rfl)) (pa_cons (pv 2) pa_nil)))))))))))), ?_⟩
  intro dvs o R X h
  have st : ∀ z, dvs = z → startD N_Reader_negated.length dvs = startD 3 z := fun z e => by rw [e]; rfl
  obtain ⟨x, dx, t, p, d, rfl, rfl, ht, hp, m, hm, q⟩ := h
  rw [st _ rfl]; clear st; simp only [startD, toSl, List.map_cons, List.map_nil, List.length_cons, List.length_nil, List.cons_append, List.nil_append, List.append_nil, Nat.reduceAdd, Nat.reduceSub, List.reduceReplicate, Nat.zero_add, List.replicate_zero, Nat.sub_self]
  have hs : sizeLine = 16777216 := sizeLine_eq
  have cl := T.cl_Reader
  have n1 := T.no_Reader_text
  have n2 := T.no_Reader_tokens
  have n3 := T.no_Reader_at
  have n4 := T.no_Reader_depth
  have eO : ∀ p d, rdOb K x dx t p d = insOb K T.a_Reader x dx (rdF t p d) := fun p d => by unfold rdOb; rw [rd_cls T]
  rw [eO]
  cases m with
  | zero => exact q.elim
  | succ m =>
  have q : RdS K x dx t (if fx t (ksT t) p = "not" then (beginR (ksT t) p d).bind fun st p d => (takeR t (ksT t) "not" p d).bind fun _ p d => (pr t (ksT t) m .negated p d).bind fun x p d => .ok (.nt st x.e x) p (d - 1) else pr t (ksT t) m .compared p d) Tr.toD R X := q
  repeat array_get_dec
  refine ⟨x, dx, t, p, d, rfl, (eO _ _).symm, ht, ?_⟩
  repeat array_get_dec
  refine bs_nd (fun c => ?_) fun c => ?_
  · rw [if_neg c] at q
    repeat array_get_dec
    refine ⟨x, dx, t, p, d, rfl, (eO _ _).symm, ht, by omega, m, by omega, rds_last q (fun a p2 d2 e2 q => ?_) fun _ _ h => h⟩
    exact q
  · rw [if_pos c] at q
    repeat array_get_dec
    refine ⟨x, dx, t, p, d, rfl, (eO _ _).symm, ht, rds_bind q (fun st p1 d1 e1 q => ?_) fun _ _ h => h⟩
    have k1 := beginR_ok e1
    rw [eO]
    repeat array_get_dec
    refine ⟨x, dx, t, p1, d1, _, rfl, (eO _ _).symm, ht, rds_bind q (fun _ p2 d2 e2 q => ?_) fun _ _ h => h⟩
    have k2 := takeR_ok (by decide +kernel) e2
    rw [eO]
    repeat array_get_dec
    refine ⟨x, dx, t, p2, d2, rfl, (eO _ _).symm, ht, by omega, m, by omega, rds_bind q (fun a p3 d3 e3 q => ?_) fun _ _ h => h⟩
    have k3 := pr_inv _ _ _ _ _ _ _ e3
    unfold Fwd at k3
    obtain rfl : d3 = d + 1 := by omega
    have q : R (.d (.tuple [.str "not", nI st, nI a.e, a.toD])) (rdOb K x dx t p3 d) := q
    rw [eO] at q
    obtain ⟨w0, r0, hw⟩ := a.toD_eq
    rw [hw] at q ⊢
    rw [eO]
    repeat array_get_dec
    refine xr_ixT (atD_of (j := 2) rfl rfl) ?_
    repeat array_get_dec
    exact q
theorem ok_Reader_signed (T : Txt K mg) (n : Nat) (G_Reader_fixed : FnOk P w K mg base CX0 2 T.a_Reader_fixed T.fd_Reader_fixed ["self"] (spD K (S_Reader_fixed K))) (G_Reader_reached : FnOk P w K mg base (L2N.CX P w) (n + 6) T.a_Reader_reached T.fd_Reader_reached ["self"] (spD K (S_Reader_reached n K))) (G_Reader_begin : FnOk P w K mg base (L2N.CX P w) 4 T.a_Reader_begin T.fd_Reader_begin ["self"] (spD K (S_Reader_begin K))) (G_Reader_take : FnOk P w K mg base (L2N.CX P w) 4 T.a_Reader_take T.fd_Reader_take ["self", "expected"] (spD K (S_Reader_take K))) (G_Reader_signed : FnOk P w K mg base (L2N.CX P w) (n + 6) T.a_Reader_signed T.fd_Reader_signed ["self"] (spD K (S_Reader_signed n K))) : FnOk P w K mg base (L2N.CX P w) (n + 7) T.a_Reader_signed T.fd_Reader_signed ["self"] (spD K (S_Reader_signed (n + 1) K)) := by
  refine fnDXN T.F_Reader_signed sc_Reader_signed ?len fun cdv A outer s H E hr => ?body
  case len => intro dvs o R X h; first | (obtain ⟨rfl, _⟩ := h; rfl) | (obtain ⟨_, rfl, _⟩ := h; rfl) | (obtain ⟨_, _, rfl, _⟩ := h; rfl) | (obtain ⟨_, _, _, rfl, _⟩ := h; rfl) | (obtain ⟨_, _, _, _, rfl, _⟩ := h; rfl) | (obtain ⟨_, _, _, _, _, rfl, _⟩ := h; rfl) | (obtain ⟨_, _, _, _, _, _, rfl, _⟩ := h; rfl) | (obtain ⟨_, _, _, _, _, _, _, rfl, _⟩ := h; rfl) | (obtain ⟨_, _, _, _, _, _, _, _, rfl, _⟩ := h; rfl) | (obtain ⟨_, _, _, _, _, _, _, _, _, rfl, _⟩ := h; rfl) | (obtain ⟨_, _, _, _, _, _, _, _, _, _, rfl, _⟩ := h; rfl) | (obtain ⟨_, _, _, _, _, _, _, _, _, _, _, rfl, _⟩ := h; rfl) | (obtain ⟨_, _, _, _, _, _, _, _, _, _, _, _, rfl, _⟩ := h; rfl)
  have nd := sc_Reader_signed.nd
  have hu := hu_of hr
  refine ⟨_, (pss_cons (ps_if (pt_cmpR (DL.op_neK (K := K) rfl hr.units) (pe_meth0 (pv 0) T.cl_Reader T.m_Reader_fixed G_Reader_fixed (hr.mono (by first | decide | omega)) T.b_Reader_fixed .nil pass0) pe_str (nomark _)) (pss_one (ps_ret (DL.pe_methW0 (pv 0) T.cl_Reader T.m_Reader_reached G_Reader_reached (hr.mono (by first | decide | omega)) T.b_Reader_reached (fun σ => L2N.passAt (L2N.takes_of rfl rfl rfl rfl) σ)))) pss_nil) (pss_cons (ps_set (i := 1) nd rfl (Or.inl rfl) (DL.pe_methW0 (pv 0) T.cl_Reader T.m_Reader_begin G_Reader_begin (hr.mono (by first | decide | omega)) T.b_Reader_begin (fun σ => L2N.passAt (L2N.takes_of rfl rfl rfl rfl) σ))) (pss_cons (ps_expr (DL.pe_methW (pv 0) T.cl_Reader T.m_Reader_take G_Reader_take (hr.mono (by first | decide | omega)) T.b_Reader_take (fun σ => L2N.passAt (L2N.takes_of rfl rfl rfl rfl) σ) (pa_cons pe_str pa_nil))) (pss_cons (ps_set (i := 2) nd rfl (Or.inl rfl) (DL.pe_methW0 (pv 0) T.cl_Reader T.m_Reader_signed G_Reader_signed (hr.mono (by first | decide | omega)) T.b_Reader_signed (fun σ => L2N.passAt (L2N.takes_of rfl rfl rfl rfl) σ))) (pss_cons (DL.ps_fldaugK (K := K) rfl (pv 0) pe_int in_sub) (pss_one (ps_ret (pe_tup (pa_cons pe_str (pa_cons (pv 1) (pa_cons (pe_ix (DL.ix_K (K := K) rfl) (pv 2) pe_int (fun _ _ => rfl)) (pa_cons (pv 2) pa_nil)))))))))))), ?_⟩
  intro dvs o R X h
  have st : ∀ z, dvs = z → startD N_Reader_signed.length dvs = startD 3 z := fun z e => by rw [e]; rfl
  obtain ⟨x, dx, t, p, d, rfl, rfl, ht, hp, m, hm, q⟩ := h
  rw [st _ rfl]; clear st; simp only [startD, toSl, List.map_cons, List.map_nil, List.length_cons, List.length_nil, List.cons_append, List.nil_append, List.append_nil, Nat.reduceAdd, Nat.reduceSub, List.reduceReplicate, Nat.zero_add, List.replicate_zero, Nat.sub_self]
  have hs : sizeLine = 16777216 := sizeLine_eq
  have cl := T.cl_Reader
  have n1 := T.no_Reader_text
  have n2 := T.no_Reader_tokens
  have n3 := T.no_Reader_at
  have n4 := T.no_Reader_depth
  have eO : ∀ p d, rdOb K x dx t p d = insOb K T.a_Reader x dx (rdF t p d) := fun p d => by unfold rdOb; rw [rd_cls T]
  rw [eO]
  cases m with
  | zero => exact q.elim
  | succ m =>
  have q : RdS K x dx t (if fx t (ksT t) p = "-" then (beginR (ksT t) p d).bind fun st p d => (takeR t (ksT t) "-" p d).bind fun _ p d => (pr t (ksT t) m .signed p d).bind fun x p d => .ok (.mns st x.e x) p (d - 1) else pr t (ksT t) m .reached p d) Tr.toD R X := q
  repeat array_get_dec
  refine ⟨x, dx, t, p, d, rfl, (eO _ _).symm, ht, ?_⟩
  repeat array_get_dec
  refine bs_nd (fun c => ?_) fun c => ?_
  · rw [if_neg c] at q
    repeat array_get_dec
    refine ⟨x, dx, t, p, d, rfl, (eO _ _).symm, ht, by omega, m, by omega, rds_last q (fun a p2 d2 e2 q => ?_) fun _ _ h => h⟩
    exact q
  · rw [if_pos c] at q
    repeat array_get_dec
    refine ⟨x, dx, t, p, d, rfl, (eO _ _).symm, ht, rds_bind q (fun st p1 d1 e1 q => ?_) fun _ _ h => h⟩
    have k1 := beginR_ok e1
    rw [eO]
    repeat array_get_dec
    refine ⟨x, dx, t, p1, d1, _, rfl, (eO _ _).symm, ht, rds_bind q (fun _ p2 d2 e2 q => ?_) fun _ _ h => h⟩
    have k2 := takeR_ok (by decide +kernel) e2
    rw [eO]
    repeat array_get_dec
    refine ⟨x, dx, t, p2, d2, rfl, (eO _ _).symm, ht, by omega, m, by omega, rds_bind q (fun a p3 d3 e3 q => ?_) fun _ _ h => h⟩
    have k3 := pr_inv _ _ _ _ _ _ _ e3
    unfold Fwd at k3
    obtain rfl : d3 = d + 1 := by omega
    have q : R (.d (.tuple [.str "minus", nI st, nI a.e, a.toD])) (rdOb K x dx t p3 d) := q
    rw [eO] at q
    obtain ⟨w0, r0, hw⟩ := a.toD_eq
    rw [hw] at q ⊢
    rw [eO]
    repeat array_get_dec
    refine xr_ixT (atD_of (j := 2) rfl rfl) ?_
    repeat array_get_dec
    exact q
theorem ok_Reader_compared (T : Txt K mg) (n : Nat) (G_Reader_chain : FnOk P w K mg base (L2N.CX P w) (n + 6) T.a_Reader_chain T.fd_Reader_chain ["self", "signs"] (spD K (S_Reader_chain n K))) (G_Reader_fixed : FnOk P w K mg base CX0 2 T.a_Reader_fixed T.fd_Reader_fixed ["self"] (spD K (S_Reader_fixed K))) : FnOk P w K mg base (L2N.CX P w) (n + 7) T.a_Reader_compared T.fd_Reader_compared ["self"] (spD K (S_Reader_compared (n + 1) K)) := by
  refine fnDXN T.F_Reader_compared sc_Reader_compared ?len fun cdv A outer s H E hr => ?body
  case len => intro dvs o R X h; first | (obtain ⟨rfl, _⟩ := h; rfl) | (obtain ⟨_, rfl, _⟩ := h; rfl) | (obtain ⟨_, _, rfl, _⟩ := h; rfl) | (obtain ⟨_, _, _, rfl, _⟩ := h; rfl) | (obtain ⟨_, _, _, _, rfl, _⟩ := h; rfl) | (obtain ⟨_, _, _, _, _, rfl, _⟩ := h; rfl) | (obtain ⟨_, _, _, _, _, _, rfl, _⟩ := h; rfl) | (obtain ⟨_, _, _, _, _, _, _, rfl, _⟩ := h; rfl) | (obtain ⟨_, _, _, _, _, _, _, _, rfl, _⟩ := h; rfl) | (obtain ⟨_, _, _, _, _, _, _, _, _, rfl, _⟩ := h; rfl) | (obtain ⟨_, _, _, _, _, _, _, _, _, _, rfl, _⟩ := h; rfl) | (obtain ⟨_, _, _, _, _, _, _, _, _, _, _, rfl, _⟩ := h; rfl) | (obtain ⟨_, _, _, _, _, _, _, _, _, _, _, _, rfl, _⟩ := h; rfl)
  have nd := sc_Reader_compared.nd
  have hu := hu_of hr
  refine ⟨_, (pss_cons (ps_set (i := 1) nd rfl (Or.inl rfl) (DL.pe_methW (pv 0) T.cl_Reader T.m_Reader_chain G_Reader_chain (hr.mono (by first | decide | omega)) T.b_Reader_chain (fun σ => L2N.passAt (L2N.takes_of rfl rfl rfl rfl) σ) (pa_cons (pe_glob (v := .ref T.a_SUMS) (by rfl) T.g_SUMS rfl) pa_nil))) (pss_cons (ps_if (PW.pt (pw_or (pt_cmpR (DL.op_eqK (K := K) rfl hr.units) (pe_meth0 (pv 0) T.cl_Reader T.m_Reader_fixed G_Reader_fixed (hr.mono (by first | decide | omega)) T.b_Reader_fixed .nil pass0) pe_str (nomark _)) (pw_or1 (pt_cmpR (DL.op_eqK (K := K) rfl hr.units) (pe_meth0 (pv 0) T.cl_Reader T.m_Reader_fixed G_Reader_fixed (hr.mono (by first | decide | omega)) T.b_Reader_fixed .nil pass0) pe_str (nomark _))))) (pss_cons (ps_set (i := 2) nd rfl (Or.inl rfl) (pe_meth0 (pv 0) T.cl_Reader T.m_Reader_fixed G_Reader_fixed (hr.mono (by first | decide | omega)) T.b_Reader_fixed .nil pass0)) (pss_cons (DL.ps_fldaugK (K := K) rfl (pv 0) pe_int in_add) (pss_cons (ps_set (i := 3) nd rfl (Or.inl rfl) (DL.pe_methW (pv 0) T.cl_Reader T.m_Reader_chain G_Reader_chain (hr.mono (by first | decide | omega)) T.b_Reader_chain (fun σ => L2N.passAt (L2N.takes_of rfl rfl rfl rfl) σ) (pa_cons (pe_glob (v := .ref T.a_SUMS) (by rfl) T.g_SUMS rfl) pa_nil))) (pss_one (ps_ret (pe_tup (pa_cons pe_str (pa_cons (pe_ix (DL.ix_K (K := K) rfl) (pv 1) pe_int (fun _ _ => rfl)) (pa_cons (pe_ix (DL.ix_K (K := K) rfl) (pv 3) pe_int (fun _ _ => rfl)) (pa_cons (pv 2) (pa_cons (pv 1) (pa_cons (pv 3) pa_nil)))))))))))) pss_nil) (pss_one (ps_ret (pv 1))))), ?_⟩
  intro dvs o R X h
  have st : ∀ z, dvs = z → startD N_Reader_compared.length dvs = startD 4 z := fun z e => by rw [e]; rfl
  obtain ⟨x, dx, t, p, d, rfl, rfl, ht, hp, m, hm, q⟩ := h
  rw [st _ rfl]; clear st; simp only [startD, toSl, List.map_cons, List.map_nil, List.length_cons, List.length_nil, List.cons_append, List.nil_append, List.append_nil, Nat.reduceAdd, Nat.reduceSub, List.reduceReplicate, Nat.zero_add, List.replicate_zero, Nat.sub_self]
  have hs : sizeLine = 16777216 := sizeLine_eq
  have cl := T.cl_Reader
  have n1 := T.no_Reader_text
  have n2 := T.no_Reader_tokens
  have n3 := T.no_Reader_at
  have n4 := T.no_Reader_depth
  have eO : ∀ p d, rdOb K x dx t p d = insOb K T.a_Reader x dx (rdF t p d) := fun p d => by unfold rdOb; rw [rd_cls T]
  rw [eO]
  cases m with
  | zero => exact q.elim
  | succ m =>
  have hW1 := T.w_SUMS
  have hWL : PyData.tuple (k_SUMS.map .str) = sgnD true := rfl
  repeat array_get_dec
  refine ⟨x, dx, t, p, d, true, by rw [hWL], (eO _ _).symm, ht, by omega, m, by omega, rds_bind q (fun a p1 d1 e1 q => ?_) fun _ _ h => h⟩
  have k1 := pr_inv _ _ _ _ _ _ _ e1
  unfold Fwd at k1
  rw [eO]
  repeat array_get_dec
  refine ⟨x, dx, t, p1, d1, rfl, (eO _ _).symm, ht, ?_⟩
  repeat array_get_dec
  refine bs_d (fun c => ?_) fun c => ?_
  · have := fx_lt c (by decide +kernel)
    rw [if_pos (.inl c)] at q
    repeat array_get_dec
    refine ⟨x, dx, t, p1, d1, rfl, (eO _ _).symm, ht, ?_⟩
    repeat array_get_dec
    refine ⟨x, dx, t, p1 + 1, d1, true, by rw [hWL], (eO _ _).symm, ht, by omega, m, by omega, rds_bind q (fun b p2 d2 e2 q => ?_) fun _ _ h => h⟩
    have q : R (.d (.tuple [.str "binary", nI a.s, nI b.e, .str (fx t (ksT t) p1), a.toD, b.toD])) (rdOb K x dx t p2 d2) := q
    rw [eO] at q
    obtain ⟨wa, ra, ha⟩ := a.toD_eq
    obtain ⟨wb, rb, hb⟩ := b.toD_eq
    rw [ha, hb] at q
    rw [eO, ha, hb]
    repeat array_get_dec
    refine xr_ixT (atD_of (j := 1) rfl rfl) ?_
    repeat array_get_dec
    refine xr_ixT (atD_of (j := 2) rfl rfl) ?_
    repeat array_get_dec
    exact q
  repeat array_get_dec
  refine ⟨x, dx, t, p1, d1, rfl, (eO _ _).symm, ht, ?_⟩
  repeat array_get_dec
  refine bs_d (fun c2 => ?_) fun c2 => ?_
  · have := fx_lt c2 (by decide +kernel)
    rw [if_pos (.inr c2)] at q
    repeat array_get_dec
    refine ⟨x, dx, t, p1, d1, rfl, (eO _ _).symm, ht, ?_⟩
    repeat array_get_dec
    refine ⟨x, dx, t, p1 + 1, d1, true, by rw [hWL], (eO _ _).symm, ht, by omega, m, by omega, rds_bind q (fun b p2 d2 e2 q => ?_) fun _ _ h => h⟩
    have q : R (.d (.tuple [.str "binary", nI a.s, nI b.e, .str (fx t (ksT t) p1), a.toD, b.toD])) (rdOb K x dx t p2 d2) := q
    rw [eO] at q
    obtain ⟨wa, ra, ha⟩ := a.toD_eq
    obtain ⟨wb, rb, hb⟩ := b.toD_eq
    rw [ha, hb] at q
    rw [eO, ha, hb]
    repeat array_get_dec
    refine xr_ixT (atD_of (j := 1) rfl rfl) ?_
    repeat array_get_dec
    refine xr_ixT (atD_of (j := 2) rfl rfl) ?_
    repeat array_get_dec
    exact q
  rw [if_neg (fun z => z.elim c c2)] at q
  have q : R (.d a.toD) (rdOb K x dx t p1 d1) := q
  rw [eO] at q
  repeat array_get_dec
  exact q
theorem ok_Reader_reached (T : Txt K mg) (n : Nat) (G_Reader_simple : FnOk P w K mg base (L2N.CX P w) (n + 6) T.a_Reader_simple T.fd_Reader_simple ["self"] (spD K (S_Reader_simple n K))) (G_Reader_try_take : FnOk P w K mg base CX0 3 T.a_Reader_try_take T.fd_Reader_try_take ["self", "expected"] (spD K (S_Reader_try_take K))) (G_Reader_mark : FnOk P w K mg base (L2N.CX P w) 4 T.a_Reader_mark T.fd_Reader_mark ["self"] (spD K (S_Reader_mark K))) (G_Reader_last_end : FnOk P w K mg base CX0 1 T.a_Reader_last_end T.fd_Reader_last_end ["self"] (spD K (S_Reader_last_end K))) : FnOk P w K mg base (L2N.CX P w) (n + 7) T.a_Reader_reached T.fd_Reader_reached ["self"] (spD K (S_Reader_reached (n + 1) K)) := by
  refine fnDXN T.F_Reader_reached sc_Reader_reached ?len fun cdv A outer s H E hr => ?body
  case len => intro dvs o R X h; first | (obtain ⟨rfl, _⟩ := h; rfl) | (obtain ⟨_, rfl, _⟩ := h; rfl) | (obtain ⟨_, _, rfl, _⟩ := h; rfl) | (obtain ⟨_, _, _, rfl, _⟩ := h; rfl) | (obtain ⟨_, _, _, _, rfl, _⟩ := h; rfl) | (obtain ⟨_, _, _, _, _, rfl, _⟩ := h; rfl) | (obtain ⟨_, _, _, _, _, _, rfl, _⟩ := h; rfl) | (obtain ⟨_, _, _, _, _, _, _, rfl, _⟩ := h; rfl) | (obtain ⟨_, _, _, _, _, _, _, _, rfl, _⟩ := h; rfl) | (obtain ⟨_, _, _, _, _, _, _, _, _, rfl, _⟩ := h; rfl) | (obtain ⟨_, _, _, _, _, _, _, _, _, _, rfl, _⟩ := h; rfl) | (obtain ⟨_, _, _, _, _, _, _, _, _, _, _, rfl, _⟩ := h; rfl) | (obtain ⟨_, _, _, _, _, _, _, _, _, _, _, _, rfl, _⟩ := h; rfl)
  have nd := sc_Reader_reached.nd
  have hu := hu_of hr
  refine ⟨_, (pss_cons (ps_set (i := 1) nd rfl (Or.inl rfl) (DL.pe_methW0 (pv 0) T.cl_Reader T.m_Reader_simple G_Reader_simple (hr.mono (by first | decide | omega)) T.b_Reader_simple (fun σ => L2N.passAt (L2N.takes_of rfl rfl rfl rfl) σ))) (pss_cons (ps_while (passes_of rfl) (pt_val (pe_meth (pv 0) T.cl_Reader T.m_Reader_try_take G_Reader_try_take (hr.mono (by first | decide | omega)) T.b_Reader_try_take .nil pass0 (pa_cons pe_str pa_nil))) (pss_cons (ps_asg (DL.pe_methW0 (pv 0) T.cl_Reader T.m_Reader_mark G_Reader_mark (hr.mono (by first | decide | omega)) T.b_Reader_mark (fun σ => L2N.passAt (L2N.takes_of rfl rfl rfl rfl) σ)) (DL.pg_tupK (K := K) (n := 2) rfl (pg_tup (by rfl) (pgs_cons (pg_name (i := 2) nd rfl (Or.inl rfl)) (pgs_cons (pg_name (i := 3) nd rfl (Or.inl rfl)) pgs_nil))))) (pss_one (ps_set (i := 1) nd rfl (Or.inl rfl) (pe_tup (pa_cons pe_str (pa_cons (pe_ix (DL.ix_K (K := K) rfl) (pv 1) pe_int (fun _ _ => rfl)) (pa_cons (pe_meth0 (pv 0) T.cl_Reader T.m_Reader_last_end G_Reader_last_end (hr.mono (by first | decide | omega)) T.b_Reader_last_end .nil pass0) (pa_cons (pv 1) (pa_cons (pv 2) pa_nil)))))))))) (pss_one (ps_ret (pv 1))))), ?_⟩
  intro dvs o R X h
  have st : ∀ z, dvs = z → startD N_Reader_reached.length dvs = startD 4 z := fun z e => by rw [e]; rfl
  obtain ⟨x, dx, t, p, d, rfl, rfl, ht, hp, m, hm, q⟩ := h
  rw [st _ rfl]; clear st; simp only [startD, toSl, List.map_cons, List.map_nil, List.length_cons, List.length_nil, List.cons_append, List.nil_append, List.append_nil, Nat.reduceAdd, Nat.reduceSub, List.reduceReplicate, Nat.zero_add, List.replicate_zero, Nat.sub_self]
  have hs : sizeLine = 16777216 := sizeLine_eq
  have cl := T.cl_Reader
  have n1 := T.no_Reader_text
  have n2 := T.no_Reader_tokens
  have n3 := T.no_Reader_at
  have n4 := T.no_Reader_depth
  have eO : ∀ p d, rdOb K x dx t p d = insOb K T.a_Reader x dx (rdF t p d) := fun p d => by unfold rdOb; rw [rd_cls T]
  rw [eO]
  cases m with
  | zero => exact q.elim
  | succ m =>
  repeat array_get_dec
  refine ⟨x, dx, t, p, d, rfl, (eO _ _).symm, ht, by omega, m, by omega, rds_bind q (fun a p1 d1 e1 q => ?_) fun _ _ h => h⟩
  have k1 := pr_inv _ _ _ _ _ _ _ e1
  unfold Fwd at k1
  rw [eO]
  repeat array_get_dec
  refine xs_while (fun f ρ' o' => Hold (∃ (a : Tr) (p d : Nat) (x2 x3 : Sl), o' = insOb K T.a_Reader x dx (rdF t p d) ∧ ρ' = [.raw (.ref x), .val a.toD, x2, x3] ∧ p ≤ (ksT t).length ∧ RdS K x dx t (pr t (ksT t) f (.rloop a) p d) Tr.toD R X)) m (hold ⟨a, p1, d1, _, _, rfl, rfl, by omega, q⟩) ?_
  clear q k1 e1
  rintro f _ _ ⟨a, p, d, x2, x3, rfl, rfl, hp, q⟩
  cases f with
  | zero => exact q.elim
  | succ f =>
  have q : RdS K x dx t (if fx t (ksT t) p = "." then (markR t (ksT t) (p + 1) d).bind fun m p d => pr t (ksT t) f (.rloop (.fld a.s (lend (ksT t) p) a m.1)) p d else .ok a p d) Tr.toD R X := q
  repeat array_get_dec
  refine ⟨x, dx, t, p, d, _, rfl, (eO _ _).symm, ht, fun c => ?_, fun c => ?_⟩
  · have := fx_lt c (by decide +kernel)
    rw [if_pos c] at q
    rw [eO]
    repeat array_get_dec
    refine ⟨x, dx, t, p + 1, d, rfl, (eO _ _).symm, ht, rds_bind q (fun m2 p2 d2 e2 q => ?_) fun _ _ h => h⟩
    have k2 := markR_ok e2
    obtain ⟨wa, ra, ha⟩ := a.toD_eq
    rw [eO, ha]
    repeat array_get_dec
    refine xr_ixT (atD_of (j := 1) rfl rfl) ?_
    repeat array_get_dec
    refine ⟨x, dx, t, p2, d2, rfl, (eO _ _).symm, ht, by omega, by omega, ?_⟩
    repeat array_get_dec
    refine ⟨f, by omega, hold ⟨_, p2, d2, .val (.str m2.1), .val (nI m2.2), rfl, ?_, by omega, q⟩⟩
    simp only [List.set_cons_succ, List.set_cons_zero, Tr.toD, ha]
  · rw [if_neg c] at q
    have q : R (.d a.toD) (rdOb K x dx t p d) := q
    rw [eO] at q
    repeat array_get_dec
    exact q
theorem ok_Reader_arguments (T : Txt K mg) (n : Nat) (G_Reader_take : FnOk P w K mg base (L2N.CX P w) 4 T.a_Reader_take T.fd_Reader_take ["self", "expected"] (spD K (S_Reader_take K))) (G_Reader_fixed : FnOk P w K mg base CX0 2 T.a_Reader_fixed T.fd_Reader_fixed ["self"] (spD K (S_Reader_fixed K))) (G_Reader_value : FnOk P w K mg base (L2N.CX P w) (n + 6) T.a_Reader_value T.fd_Reader_value ["self"] (spD K (S_Reader_value n K))) (G_Reader_try_take : FnOk P w K mg base CX0 3 T.a_Reader_try_take T.fd_Reader_try_take ["self", "expected"] (spD K (S_Reader_try_take K))) : FnOk P w K mg base (L2N.CX P w) (n + 7) T.a_Reader_arguments T.fd_Reader_arguments ["self"] (spD K (S_Reader_arguments (n + 1) K)) := by
  refine fnDXN T.F_Reader_arguments sc_Reader_arguments ?len fun cdv A outer s H E hr => ?body
  case len => intro dvs o R X h; first | (obtain ⟨rfl, _⟩ := h; rfl) | (obtain ⟨_, rfl, _⟩ := h; rfl) | (obtain ⟨_, _, rfl, _⟩ := h; rfl) | (obtain ⟨_, _, _, rfl, _⟩ := h; rfl) | (obtain ⟨_, _, _, _, rfl, _⟩ := h; rfl) | (obtain ⟨_, _, _, _, _, rfl, _⟩ := h; rfl) | (obtain ⟨_, _, _, _, _, _, rfl, _⟩ := h; rfl) | (obtain ⟨_, _, _, _, _, _, _, rfl, _⟩ := h; rfl) | (obtain ⟨_, _, _, _, _, _, _, _, rfl, _⟩ := h; rfl) | (obtain ⟨_, _, _, _, _, _, _, _, _, rfl, _⟩ := h; rfl) | (obtain ⟨_, _, _, _, _, _, _, _, _, _, rfl, _⟩ := h; rfl) | (obtain ⟨_, _, _, _, _, _, _, _, _, _, _, rfl, _⟩ := h; rfl) | (obtain ⟨_, _, _, _, _, _, _, _, _, _, _, _, rfl, _⟩ := h; rfl)
  have nd := sc_Reader_arguments.nd
  have hu := hu_of hr
  refine ⟨_, (pss_cons (ps_set (i := 1) nd rfl (Or.inl rfl) (pe_lst pa_nil)) (pss_cons (ps_expr (DL.pe_methW (pv 0) T.cl_Reader T.m_Reader_take G_Reader_take (hr.mono (by first | decide | omega)) T.b_Reader_take (fun σ => L2N.passAt (L2N.takes_of rfl rfl rfl rfl) σ) (pa_cons pe_str pa_nil))) (pss_cons (ps_if (pt_cmpR (DL.op_neK (K := K) rfl hr.units) (pe_meth0 (pv 0) T.cl_Reader T.m_Reader_fixed G_Reader_fixed (hr.mono (by first | decide | omega)) T.b_Reader_fixed .nil pass0) pe_str (nomark _)) (pss_cons (ps_expr (DL.pe_bmK (K := K) rfl (pe_bm PySem.F.plainAttrs_list PySem.F.slot_list_append PySem.F.type_list_append mt_append (pv 1) (pa_cons (DL.pe_methW0 (pv 0) T.cl_Reader T.m_Reader_value G_Reader_value (hr.mono (by first | decide | omega)) T.b_Reader_value (fun σ => L2N.passAt (L2N.takes_of rfl rfl rfl rfl) σ)) pa_nil)))) (pss_one (ps_while (passes_of rfl) (pt_val (pe_meth (pv 0) T.cl_Reader T.m_Reader_try_take G_Reader_try_take (hr.mono (by first | decide | omega)) T.b_Reader_try_take .nil pass0 (pa_cons pe_str pa_nil))) (pss_one (ps_expr (DL.pe_bmK (K := K) rfl (pe_bm PySem.F.plainAttrs_list PySem.F.slot_list_append PySem.F.type_list_append mt_append (pv 1) (pa_cons (DL.pe_methW0 (pv 0) T.cl_Reader T.m_Reader_value G_Reader_value (hr.mono (by first | decide | omega)) T.b_Reader_value (fun σ => L2N.passAt (L2N.takes_of rfl rfl rfl rfl) σ)) pa_nil)))))))) pss_nil) (pss_cons (ps_expr (DL.pe_methW (pv 0) T.cl_Reader T.m_Reader_take G_Reader_take (hr.mono (by first | decide | omega)) T.b_Reader_take (fun σ => L2N.passAt (L2N.takes_of rfl rfl rfl rfl) σ) (pa_cons pe_str pa_nil))) (pss_one (ps_ret (pe_callTy (DL.call_tupK (K := K) rfl) (by rfl) T.n_tuple (by decide +kernel) (pa_cons (pv 1) pa_nil)))))))), ?_⟩
  intro dvs o R X h
  have st : ∀ z, dvs = z → startD N_Reader_arguments.length dvs = startD 2 z := fun z e => by rw [e]; rfl
  obtain ⟨x, dx, t, p, d, rfl, rfl, ht, hp, m, hm, q⟩ := h
  rw [st _ rfl]; clear st; simp only [startD, toSl, List.map_cons, List.map_nil, List.length_cons, List.length_nil, List.cons_append, List.nil_append, List.append_nil, Nat.reduceAdd, Nat.reduceSub, List.reduceReplicate, Nat.zero_add, List.replicate_zero, Nat.sub_self]
  have hs : sizeLine = 16777216 := sizeLine_eq
  have cl := T.cl_Reader
  have n1 := T.no_Reader_text
  have n2 := T.no_Reader_tokens
  have n3 := T.no_Reader_at
  have n4 := T.no_Reader_depth
  have eO : ∀ p d, rdOb K x dx t p d = insOb K T.a_Reader x dx (rdF t p d) := fun p d => by unfold rdOb; rw [rd_cls T]
  rw [eO]
  cases m with
  | zero => exact q.elim
  | succ m =>
  repeat array_get_dec
  refine ⟨x, dx, t, p, d, _, rfl, (eO _ _).symm, ht, rds_bind q (fun _ p1 d1 e1 q => ?_) fun _ _ h => h⟩
  have k1 := takeR_ok (by decide +kernel) e1
  have q : RdS K x dx t (if fx t (ksT t) p1 = ")" then .ok (.call 0 0 "" []) (p1 + 1) d1 else (pr t (ksT t) m .value p1 d1).bind fun x p d => pr t (ksT t) m (.aloop [x]) p d) (fun a => .tuple (Tr.toDs a.parts)) R X := q
  rw [eO]
  repeat array_get_dec
  refine ⟨x, dx, t, p1, d1, rfl, (eO _ _).symm, ht, ?_⟩
  repeat array_get_dec
  have hsc : (ksT t).length ≤ t.length := by
    have h := scan_len (TL.tl t) 0 0 false
    rw [← len_tl] at h
    exact h
  refine bs_nd (fun c => ?_) fun c => ?_
  · rw [if_neg c] at q
    repeat array_get_dec
    refine ⟨x, dx, t, p1, d1, rfl, (eO _ _).symm, ht, by omega, m, by omega, rds_bind q (fun a p2 d2 e2 q => ?_) fun _ _ h => h⟩
    have k2 := pr_inv _ _ _ _ _ _ _ e2
    unfold Fwd at k2
    rw [eO]
    repeat array_get_dec
    refine xm_append (by rw [hs]; decide) rfl ?_
    repeat array_get_dec
    refine xs_while (fun f ρ' o' => Hold (∃ (acc : List Tr) (p d : Nat), o' = insOb K T.a_Reader x dx (rdF t p d) ∧ ρ' = [.raw (.ref x), .own (.lst (acc.map Tr.toD))] ∧ p ≤ (ksT t).length ∧ acc.length ≤ p ∧ f ≤ m ∧ RdS K x dx t (pr t (ksT t) f (.aloop acc) p d) (fun a => .tuple (Tr.toDs a.parts)) R X)) m (hold ⟨[a], p2, d2, rfl, rfl, by omega, by show 1 ≤ p2; omega, Nat.le_refl _, q⟩) ?_
    clear q k2 e2 e1
    rintro f _ _ ⟨acc, p, d, rfl, rfl, hp, hacc, hf, q⟩
    cases f with
    | zero => exact q.elim
    | succ f =>
    have q : RdS K x dx t (if fx t (ksT t) p = "," then (pr t (ksT t) f .value (p + 1) d).bind fun x p d => pr t (ksT t) f (.aloop (acc ++ [x])) p d else (takeR t (ksT t) ")" p d).bind fun _ p d => .ok (.call 0 0 "" acc) p d) (fun a => .tuple (Tr.toDs a.parts)) R X := q
    repeat array_get_dec
    refine ⟨x, dx, t, p, d, _, rfl, (eO _ _).symm, ht, fun c => ?_, fun c => ?_⟩
    · have := fx_lt c (by decide +kernel)
      rw [if_pos c] at q
      rw [eO]
      repeat array_get_dec
      refine ⟨x, dx, t, p + 1, d, rfl, (eO _ _).symm, ht, by omega, f, by omega, rds_bind q (fun a p2 d2 e2 q => ?_) fun _ _ h => h⟩
      have k2 := pr_inv _ _ _ _ _ _ _ e2
      unfold Fwd at k2
      rw [eO]
      repeat array_get_dec
      refine xm_append (by rw [List.length_map, hs]; omega) rfl ?_
      repeat array_get_dec
      exact ⟨f, by omega, hold ⟨acc ++ [a], p2, d2, rfl, by simp, by omega, by rw [List.length_append]; show acc.length + 1 ≤ p2; omega, by omega, q⟩⟩
    · rw [if_neg c] at q
      repeat array_get_dec
      refine ⟨x, dx, t, p, d, _, rfl, (eO _ _).symm, ht, rds_bind q (fun _ p2 d2 e2 q => ?_) fun _ _ h => h⟩
      have q : R (.d (.tuple (Tr.toDs acc))) (rdOb K x dx t p2 d2) := q
      rw [eO, toDs_map] at q
      rw [eO]
      repeat array_get_dec
      refine xc_tupL isl_o ?_
      repeat array_get_dec
      exact q
  · rw [if_pos c] at q
    have q : R (.d (.tuple [])) (rdOb K x dx t (p1 + 1) d1) := q
    rw [eO] at q
    have e : takeR t (ksT t) ")" p1 d1 = .ok () (p1 + 1) d1 := if_pos c
    repeat array_get_dec
    refine ⟨x, dx, t, p1, d1, _, rfl, (eO _ _).symm, ht, ?_⟩
    rw [e]
    refine rds_ok (v := ()) ?_
    rw [eO]
    repeat array_get_dec
    refine xc_tupL isl_o ?_
    repeat array_get_dec
    exact q
theorem ok_Reader_chain (T : Txt K mg) (n : Nat) (G_Reader_chain : FnOk P w K mg base (L2N.CX P w) (n + 6) T.a_Reader_chain T.fd_Reader_chain ["self", "signs"] (spD K (S_Reader_chain n K))) (G_Reader_signed : FnOk P w K mg base (L2N.CX P w) (n + 6) T.a_Reader_signed T.fd_Reader_signed ["self"] (spD K (S_Reader_signed n K))) (G_Reader_fixed : FnOk P w K mg base CX0 2 T.a_Reader_fixed T.fd_Reader_fixed ["self"] (spD K (S_Reader_fixed K))) : FnOk P w K mg base (L2N.CX P w) (n + 7) T.a_Reader_chain T.fd_Reader_chain ["self", "signs"] (spD K (S_Reader_chain (n + 1) K)) := by
  refine fnDXN T.F_Reader_chain sc_Reader_chain ?len fun cdv A outer s H E hr => ?body
  case len => intro dvs o R X h; first | (obtain ⟨rfl, _⟩ := h; rfl) | (obtain ⟨_, rfl, _⟩ := h; rfl) | (obtain ⟨_, _, rfl, _⟩ := h; rfl) | (obtain ⟨_, _, _, rfl, _⟩ := h; rfl) | (obtain ⟨_, _, _, _, rfl, _⟩ := h; rfl) | (obtain ⟨_, _, _, _, _, rfl, _⟩ := h; rfl) | (obtain ⟨_, _, _, _, _, _, rfl, _⟩ := h; rfl) | (obtain ⟨_, _, _, _, _, _, _, rfl, _⟩ := h; rfl) | (obtain ⟨_, _, _, _, _, _, _, _, rfl, _⟩ := h; rfl) | (obtain ⟨_, _, _, _, _, _, _, _, _, rfl, _⟩ := h; rfl) | (obtain ⟨_, _, _, _, _, _, _, _, _, _, rfl, _⟩ := h; rfl) | (obtain ⟨_, _, _, _, _, _, _, _, _, _, _, rfl, _⟩ := h; rfl) | (obtain ⟨_, _, _, _, _, _, _, _, _, _, _, _, rfl, _⟩ := h; rfl)
  have nd := sc_Reader_chain.nd
  have hu := hu_of hr
  refine ⟨_, (pss_cons (ps_set (i := 2) nd rfl (Or.inl rfl) (pe_ifExp (pt_cmpR (DL.op_eqK (K := K) rfl hr.units) (pv 1) (pe_glob (v := .ref T.a_SUMS) (by rfl) T.g_SUMS rfl) (nomark _)) (DL.pe_methW (pv 0) T.cl_Reader T.m_Reader_chain G_Reader_chain (hr.mono (by first | decide | omega)) T.b_Reader_chain (fun σ => L2N.passAt (L2N.takes_of rfl rfl rfl rfl) σ) (pa_cons (pe_glob (v := .ref T.a_PRODUCTS) (by rfl) T.g_PRODUCTS rfl) pa_nil)) (DL.pe_methW0 (pv 0) T.cl_Reader T.m_Reader_signed G_Reader_signed (hr.mono (by first | decide | omega)) T.b_Reader_signed (fun σ => L2N.passAt (L2N.takes_of rfl rfl rfl rfl) σ)))) (pss_cons (ps_while (passes_of rfl) (pt_cmpR (DL.op_inK (K := K) rfl) (pe_meth0 (pv 0) T.cl_Reader T.m_Reader_fixed G_Reader_fixed (hr.mono (by first | decide | omega)) T.b_Reader_fixed .nil pass0) (pv 1) (by rfl)) (pss_cons (ps_set (i := 3) nd rfl (Or.inl rfl) (pe_meth0 (pv 0) T.cl_Reader T.m_Reader_fixed G_Reader_fixed (hr.mono (by first | decide | omega)) T.b_Reader_fixed .nil pass0)) (pss_cons (DL.ps_fldaugK (K := K) rfl (pv 0) pe_int in_add) (pss_cons (ps_set (i := 4) nd rfl (Or.inl rfl) (pe_ifExp (pt_cmpR (DL.op_eqK (K := K) rfl hr.units) (pv 1) (pe_glob (v := .ref T.a_SUMS) (by rfl) T.g_SUMS rfl) (nomark _)) (DL.pe_methW (pv 0) T.cl_Reader T.m_Reader_chain G_Reader_chain (hr.mono (by first | decide | omega)) T.b_Reader_chain (fun σ => L2N.passAt (L2N.takes_of rfl rfl rfl rfl) σ) (pa_cons (pe_glob (v := .ref T.a_PRODUCTS) (by rfl) T.g_PRODUCTS rfl) pa_nil)) (DL.pe_methW0 (pv 0) T.cl_Reader T.m_Reader_signed G_Reader_signed (hr.mono (by first | decide | omega)) T.b_Reader_signed (fun σ => L2N.passAt (L2N.takes_of rfl rfl rfl rfl) σ)))) (pss_one (ps_set (i := 2) nd rfl (Or.inl rfl) (pe_tup (pa_cons pe_str (pa_cons (pe_ix (DL.ix_K (K := K) rfl) (pv 2) pe_int (fun _ _ => rfl)) (pa_cons (pe_ix (DL.ix_K (K := K) rfl) (pv 4) pe_int (fun _ _ => rfl)) (pa_cons (pv 3) (pa_cons (pv 2) (pa_cons (pv 4) pa_nil))))))))))))) (pss_one (ps_ret (pv 2))))), ?_⟩
  intro dvs o R X h
  have st : ∀ z, dvs = z → startD N_Reader_chain.length dvs = startD 5 z := fun z e => by rw [e]; rfl
  obtain ⟨x, dx, t, p, d, b, rfl, rfl, ht, hp, m, hm, q⟩ := h
  rw [st _ rfl]; clear st; simp only [startD, toSl, List.map_cons, List.map_nil, List.length_cons, List.length_nil, List.cons_append, List.nil_append, List.append_nil, Nat.reduceAdd, Nat.reduceSub, List.reduceReplicate, Nat.zero_add, List.replicate_zero, Nat.sub_self]
  have hs : sizeLine = 16777216 := sizeLine_eq
  have cl := T.cl_Reader
  have n1 := T.no_Reader_text
  have n2 := T.no_Reader_tokens
  have n3 := T.no_Reader_at
  have n4 := T.no_Reader_depth
  have eO : ∀ p d, rdOb K x dx t p d = insOb K T.a_Reader x dx (rdF t p d) := fun p d => by unfold rdOb; rw [rd_cls T]
  rw [eO]
  cases m with
  | zero => exact q.elim
  | succ m =>
  have hW1 := T.w_SUMS
  have hW2 := T.w_PRODUCTS
  have hL1 : PyData.tuple (k_SUMS.map .str) = sgnD true := rfl
  have hL2 : PyData.tuple (k_PRODUCTS.map .str) = sgnD false := rfl
  cases b with
  | true =>
    have q : RdS K x dx t ((pr t (ksT t) m (.chain false) p d).bind fun x p d => pr t (ksT t) m (.cloop true x) p d) Tr.toD R X := q
    repeat array_get_dec
    rw [hL1]
    refine xr_eqD (by decide +kernel) (by decide +kernel) ?_
    rw [show PyData.eqv (sgnD true) (sgnD true) = true from rfl]
    repeat array_get_dec
    refine ⟨x, dx, t, p, d, false, by rw [hL2], (eO _ _).symm, ht, by omega, m, by omega, rds_bind q (fun a p1 d1 e1 q => ?_) fun _ _ h => h⟩
    have k1 := pr_inv _ _ _ _ _ _ _ e1
    unfold Fwd at k1
    rw [eO]
    repeat array_get_dec
    refine xs_while (fun f ρ' o' => Hold (∃ (a : Tr) (p d : Nat) (x3 x4 : Sl), o' = insOb K T.a_Reader x dx (rdF t p d) ∧ ρ' = [.raw (.ref x), .val (sgnD true), .val a.toD, x3, x4] ∧ p ≤ (ksT t).length ∧ f ≤ m ∧ RdS K x dx t (pr t (ksT t) f (.cloop true a) p d) Tr.toD R X)) m (hold ⟨a, p1, d1, _, _, rfl, rfl, by omega, Nat.le_refl _, q⟩) ?_
    clear q k1 e1
    rintro f _ _ ⟨a, p, d, x3, x4, rfl, rfl, hp, hf, q⟩
    cases f with
    | zero => exact q.elim
    | succ f =>
    have q : RdS K x dx t (if sgn true (fx t (ksT t) p) then (pr t (ksT t) f (.chain false) (p + 1) d).bind fun z p' d => pr t (ksT t) f (.cloop true (.bin a.s z.e (fx t (ksT t) p) a z)) p' d else .ok a p d) Tr.toD R X := q
    repeat array_get_dec
    refine ⟨x, dx, t, p, d, rfl, (eO _ _).symm, ht, ?_⟩
    repeat array_get_dec
    rw [← hL1]
    refine xr_inTs ?_
    rw [show decide (fx t (ksT t) p ∈ k_SUMS) = sgn true (fx t (ksT t) p) by rw [show k_SUMS = (["+", "-"] : List Str) from rfl]; simp [sgn]]
    repeat array_get_dec
    refine bs_b (fun c => ?_) fun c => ?_
    · have := fx_lt (t := t) (ks := ksT t) (p := p) rfl (sgn_ne c)
      rw [if_pos c] at q
      repeat array_get_dec
      refine ⟨x, dx, t, p, d, rfl, (eO _ _).symm, ht, ?_⟩
      repeat array_get_dec
      rw [hL1]
      refine xr_eqD (by decide +kernel) (by decide +kernel) ?_
      rw [show PyData.eqv (sgnD true) (sgnD true) = true from rfl]
      repeat array_get_dec
      refine ⟨x, dx, t, p + 1, d, false, by rw [hL2], (eO _ _).symm, ht, by omega, f, by omega, rds_bind q (fun b2 p2 d2 e2 q => ?_) fun _ _ h => h⟩
      have k2 := pr_inv _ _ _ _ _ _ _ e2
      unfold Fwd at k2
      obtain ⟨wa, ra, ha⟩ := a.toD_eq
      obtain ⟨wb, rb, hb⟩ := b2.toD_eq
      rw [eO, ha, hb]
      repeat array_get_dec
      refine xr_ixT (atD_of (j := 1) rfl rfl) ?_
      repeat array_get_dec
      refine xr_ixT (atD_of (j := 2) rfl rfl) ?_
      repeat array_get_dec
      refine ⟨f, by omega, hold ⟨_, p2, d2, .val (.str (fx t (ksT t) p)), .val b2.toD, rfl, ?_, by omega, by omega, q⟩⟩
      simp only [List.set_cons_succ, List.set_cons_zero, Tr.toD, ha, hb]
      try rfl
    · rw [if_neg (by rw [c]; decide)] at q
      have q : R (.d a.toD) (rdOb K x dx t p d) := q
      rw [eO] at q
      repeat array_get_dec
      exact q
  | false =>
    have q : RdS K x dx t ((pr t (ksT t) m (.signed) p d).bind fun x p d => pr t (ksT t) m (.cloop false x) p d) Tr.toD R X := q
    repeat array_get_dec
    rw [hL1]
    refine xr_eqD (by decide +kernel) (by decide +kernel) ?_
    rw [show PyData.eqv (sgnD false) (sgnD true) = false from rfl]
    repeat array_get_dec
    refine ⟨x, dx, t, p, d, rfl, (eO _ _).symm, ht, by omega, m, by omega, rds_bind q (fun a p1 d1 e1 q => ?_) fun _ _ h => h⟩
    have k1 := pr_inv _ _ _ _ _ _ _ e1
    unfold Fwd at k1
    rw [eO]
    repeat array_get_dec
    refine xs_while (fun f ρ' o' => Hold (∃ (a : Tr) (p d : Nat) (x3 x4 : Sl), o' = insOb K T.a_Reader x dx (rdF t p d) ∧ ρ' = [.raw (.ref x), .val (sgnD false), .val a.toD, x3, x4] ∧ p ≤ (ksT t).length ∧ f ≤ m ∧ RdS K x dx t (pr t (ksT t) f (.cloop false a) p d) Tr.toD R X)) m (hold ⟨a, p1, d1, _, _, rfl, rfl, by omega, Nat.le_refl _, q⟩) ?_
    clear q k1 e1
    rintro f _ _ ⟨a, p, d, x3, x4, rfl, rfl, hp, hf, q⟩
    cases f with
    | zero => exact q.elim
    | succ f =>
    have q : RdS K x dx t (if sgn false (fx t (ksT t) p) then (pr t (ksT t) f (.signed) (p + 1) d).bind fun z p' d => pr t (ksT t) f (.cloop false (.bin a.s z.e (fx t (ksT t) p) a z)) p' d else .ok a p d) Tr.toD R X := q
    repeat array_get_dec
    refine ⟨x, dx, t, p, d, rfl, (eO _ _).symm, ht, ?_⟩
    repeat array_get_dec
    rw [← hL2]
    refine xr_inTs ?_
    rw [show decide (fx t (ksT t) p ∈ k_PRODUCTS) = sgn false (fx t (ksT t) p) by rw [show k_PRODUCTS = (["*", "/"] : List Str) from rfl]; simp [sgn]]
    repeat array_get_dec
    refine bs_b (fun c => ?_) fun c => ?_
    · have := fx_lt (t := t) (ks := ksT t) (p := p) rfl (sgn_ne c)
      rw [if_pos c] at q
      repeat array_get_dec
      refine ⟨x, dx, t, p, d, rfl, (eO _ _).symm, ht, ?_⟩
      repeat array_get_dec
      rw [hL1]
      refine xr_eqD (by decide +kernel) (by decide +kernel) ?_
      first | rw [show PyData.eqv (sgnD false) (sgnD true) = false from rfl] | rw [show PyData.eqv (PyData.tuple (k_PRODUCTS.map .str)) (sgnD true) = false from rfl]
      repeat array_get_dec
      refine ⟨x, dx, t, p + 1, d, rfl, (eO _ _).symm, ht, by omega, f, by omega, rds_bind q (fun b2 p2 d2 e2 q => ?_) fun _ _ h => h⟩
      have k2 := pr_inv _ _ _ _ _ _ _ e2
      unfold Fwd at k2
      obtain ⟨wa, ra, ha⟩ := a.toD_eq
      obtain ⟨wb, rb, hb⟩ := b2.toD_eq
      rw [eO, ha, hb]
      repeat array_get_dec
      refine xr_ixT (atD_of (j := 1) rfl rfl) ?_
      repeat array_get_dec
      refine xr_ixT (atD_of (j := 2) rfl rfl) ?_
      repeat array_get_dec
      refine ⟨f, by omega, hold ⟨_, p2, d2, .val (.str (fx t (ksT t) p)), .val b2.toD, rfl, ?_, by omega, by omega, q⟩⟩
      simp only [List.set_cons_succ, List.set_cons_zero, Tr.toD, ha, hb]
      try rfl
    · rw [if_neg (by rw [c]; decide)] at q
      have q : R (.d a.toD) (rdOb K x dx t p d) := q
      rw [eO] at q
      repeat array_get_dec
      exact q
theorem ok_Reader_either (T : Txt K mg) (n : Nat) (G_Reader_either : FnOk P w K mg base (L2N.CX P w) (n + 6) T.a_Reader_either T.fd_Reader_either ["self", "level"] (spD K (S_Reader_either n K))) (G_Reader_negated : FnOk P w K mg base (L2N.CX P w) (n + 6) T.a_Reader_negated T.fd_Reader_negated ["self"] (spD K (S_Reader_negated n K))) (G_Reader_fixed : FnOk P w K mg base CX0 2 T.a_Reader_fixed T.fd_Reader_fixed ["self"] (spD K (S_Reader_fixed K))) : FnOk P w K mg base (L2N.CX P w) (n + 7) T.a_Reader_either T.fd_Reader_either ["self", "level"] (spD K (S_Reader_either (n + 1) K)) := by
  refine fnDXN T.F_Reader_either sc_Reader_either ?len fun cdv A outer s H E hr => ?body
  case len => intro dvs o R X h; first | (obtain ⟨rfl, _⟩ := h; rfl) | (obtain ⟨_, rfl, _⟩ := h; rfl) | (obtain ⟨_, _, rfl, _⟩ := h; rfl) | (obtain ⟨_, _, _, rfl, _⟩ := h; rfl) | (obtain ⟨_, _, _, _, rfl, _⟩ := h; rfl) | (obtain ⟨_, _, _, _, _, rfl, _⟩ := h; rfl) | (obtain ⟨_, _, _, _, _, _, rfl, _⟩ := h; rfl) | (obtain ⟨_, _, _, _, _, _, _, rfl, _⟩ := h; rfl) | (obtain ⟨_, _, _, _, _, _, _, _, rfl, _⟩ := h; rfl) | (obtain ⟨_, _, _, _, _, _, _, _, _, rfl, _⟩ := h; rfl) | (obtain ⟨_, _, _, _, _, _, _, _, _, _, rfl, _⟩ := h; rfl) | (obtain ⟨_, _, _, _, _, _, _, _, _, _, _, rfl, _⟩ := h; rfl) | (obtain ⟨_, _, _, _, _, _, _, _, _, _, _, _, rfl, _⟩ := h; rfl)
  have nd := sc_Reader_either.nd
  have hu := hu_of hr
  refine ⟨_, (pss_cons (ps_if (pt_cmpR (DL.op_eqK (K := K) rfl hr.units) (pv 1) (pe_callB (DL.call_lenK (K := K) rfl) (by rfl) T.n_len (by decide +kernel) (pa_cons (pe_glob (v := .ref T.a_LEVELS) (by rfl) T.g_LEVELS rfl) pa_nil)) (nomark _)) (pss_one (ps_ret (DL.pe_methW0 (pv 0) T.cl_Reader T.m_Reader_negated G_Reader_negated (hr.mono (by first | decide | omega)) T.b_Reader_negated (fun σ => L2N.passAt (L2N.takes_of rfl rfl rfl rfl) σ)))) pss_nil) (pss_cons (ps_set (i := 2) nd rfl (Or.inl rfl) (DL.pe_methW (pv 0) T.cl_Reader T.m_Reader_either G_Reader_either (hr.mono (by first | decide | omega)) T.b_Reader_either (fun σ => L2N.passAt (L2N.takes_of rfl rfl rfl rfl) σ) (pa_cons (pe_op (DL.op_addK (K := K) rfl) (pv 1) pe_int) pa_nil))) (pss_cons (ps_while (passes_of rfl) (pt_cmpR (DL.op_inK (K := K) rfl) (pe_meth0 (pv 0) T.cl_Reader T.m_Reader_fixed G_Reader_fixed (hr.mono (by first | decide | omega)) T.b_Reader_fixed .nil pass0) (pe_ix (DL.ix_K (K := K) rfl) (pe_glob (v := .ref T.a_LEVELS) (by rfl) T.g_LEVELS rfl) (pv 1) (fun _ _ => rfl)) (by rfl)) (pss_cons (ps_set (i := 3) nd rfl (Or.inl rfl) (pe_meth0 (pv 0) T.cl_Reader T.m_Reader_fixed G_Reader_fixed (hr.mono (by first | decide | omega)) T.b_Reader_fixed .nil pass0)) (pss_cons (DL.ps_fldaugK (K := K) rfl (pv 0) pe_int in_add) (pss_cons (ps_set (i := 4) nd rfl (Or.inl rfl) (DL.pe_methW (pv 0) T.cl_Reader T.m_Reader_either G_Reader_either (hr.mono (by first | decide | omega)) T.b_Reader_either (fun σ => L2N.passAt (L2N.takes_of rfl rfl rfl rfl) σ) (pa_cons (pe_op (DL.op_addK (K := K) rfl) (pv 1) pe_int) pa_nil))) (pss_one (ps_set (i := 2) nd rfl (Or.inl rfl) (pe_tup (pa_cons pe_str (pa_cons (pe_ix (DL.ix_K (K := K) rfl) (pv 2) pe_int (fun _ _ => rfl)) (pa_cons (pe_ix (DL.ix_K (K := K) rfl) (pv 4) pe_int (fun _ _ => rfl)) (pa_cons (pv 3) (pa_cons (pv 2) (pa_cons (pv 4) pa_nil))))))))))))) (pss_one (ps_ret (pv 2)))))), ?_⟩
  intro dvs o R X h
  have st : ∀ z, dvs = z → startD N_Reader_either.length dvs = startD 5 z := fun z e => by rw [e]; rfl
  obtain ⟨x, dx, t, p, d, l, rfl, rfl, hl, ht, hp, m, hm, q⟩ := h
  rw [st _ rfl]; clear st; simp only [startD, toSl, List.map_cons, List.map_nil, List.length_cons, List.length_nil, List.cons_append, List.nil_append, List.append_nil, Nat.reduceAdd, Nat.reduceSub, List.reduceReplicate, Nat.zero_add, List.replicate_zero, Nat.sub_self]
  have hs : sizeLine = 16777216 := sizeLine_eq
  have cl := T.cl_Reader
  have n1 := T.no_Reader_text
  have n2 := T.no_Reader_tokens
  have n3 := T.no_Reader_at
  have n4 := T.no_Reader_depth
  have eO : ∀ p d, rdOb K x dx t p d = insOb K T.a_Reader x dx (rdF t p d) := fun p d => by unfold rdOb; rw [rd_cls T]
  rw [eO]
  cases m with
  | zero => exact q.elim
  | succ m =>
  have hW := T.w_LEVELS
  have q : RdS K x dx t (if l = 2 then pr t (ksT t) m .negated p d else (pr t (ksT t) m (.either (l + 1)) p d).bind fun x p d => pr t (ksT t) m (.eloop l x) p d) Tr.toD R X := q
  repeat array_get_dec
  refine bs_d (fun c => ?_) fun c => ?_
  · have c : (l : Int) = 2 := c
    rw [if_pos (by omega)] at q
    repeat array_get_dec
    refine ⟨x, dx, t, p, d, rfl, (eO _ _).symm, ht, by omega, m, by omega, rds_last q (fun a p2 d2 e2 q => ?_) fun _ _ h => h⟩
    exact q
  have c : ¬ (l : Int) = 2 := c
  rw [if_neg (by omega)] at q
  obtain rfl | rfl : l = 0 ∨ l = 1 := by omega
  · repeat array_get_dec
    refine ⟨x, dx, t, p, d, 0 + 1, rfl, (eO _ _).symm, by omega, ht, by omega, m, by omega, rds_bind q (fun a p1 d1 e1 q => ?_) fun _ _ h => h⟩
    have k1 := pr_inv _ _ _ _ _ _ _ e1
    unfold Fwd at k1
    rw [eO]
    repeat array_get_dec
    refine xs_while (fun f ρ' o' => Hold (∃ (a : Tr) (p d : Nat) (x3 x4 : Sl), o' = insOb K T.a_Reader x dx (rdF t p d) ∧ ρ' = [.raw (.ref x), .val (nI 0), .val a.toD, x3, x4] ∧ p ≤ (ksT t).length ∧ f ≤ m ∧ RdS K x dx t (pr t (ksT t) f (.eloop 0 a) p d) Tr.toD R X)) m (hold ⟨a, p1, d1, _, _, rfl, rfl, by omega, Nat.le_refl _, q⟩) ?_
    clear q k1 e1
    rintro f _ _ ⟨a, p, d, x3, x4, rfl, rfl, hp, hf, q⟩
    cases f with
    | zero => exact q.elim
    | succ f =>
    have q : RdS K x dx t (if fx t (ksT t) p = lvS 0 then (pr t (ksT t) f (.either (0 + 1)) (p + 1) d).bind fun z p' d => pr t (ksT t) f (.eloop 0 (.bin a.s z.e (fx t (ksT t) p) a z)) p' d else .ok a p d) Tr.toD R X := q
    repeat array_get_dec
    refine ⟨x, dx, t, p, d, rfl, (eO _ _).symm, ht, ?_⟩
    repeat array_get_dec
    refine xr_ixT (atD_of (j := 0) rfl rfl) ?_
    repeat array_get_dec
    refine xr_inTs ?_
    rw [show decide (fx t (ksT t) p ∈ (["or"] : List Str)) = decide (fx t (ksT t) p = lvS 0) from decide_eq_decide.mpr List.mem_singleton]
    repeat array_get_dec
    refine bs_d (fun c => ?_) fun c => ?_
    · have := fx_lt c (lvS_ne 0)
      rw [if_pos c] at q
      repeat array_get_dec
      refine ⟨x, dx, t, p, d, rfl, (eO _ _).symm, ht, ?_⟩
      repeat array_get_dec
      refine ⟨x, dx, t, p + 1, d, 0 + 1, rfl, (eO _ _).symm, by omega, ht, by omega, f, by omega, rds_bind q (fun b2 p2 d2 e2 q => ?_) fun _ _ h => h⟩
      have k2 := pr_inv _ _ _ _ _ _ _ e2
      unfold Fwd at k2
      obtain ⟨wa, ra, ha⟩ := a.toD_eq
      obtain ⟨wb, rb, hb⟩ := b2.toD_eq
      rw [eO, ha, hb]
      repeat array_get_dec
      refine xr_ixT (atD_of (j := 1) rfl rfl) ?_
      repeat array_get_dec
      refine xr_ixT (atD_of (j := 2) rfl rfl) ?_
      repeat array_get_dec
      refine ⟨f, by omega, hold ⟨_, p2, d2, .val (.str (fx t (ksT t) p)), .val b2.toD, rfl, ?_, by omega, by omega, q⟩⟩
      simp only [List.set_cons_succ, List.set_cons_zero, Tr.toD, ha, hb]
      try rfl
    · rw [if_neg c] at q
      have q : R (.d a.toD) (rdOb K x dx t p d) := q
      rw [eO] at q
      repeat array_get_dec
      exact q
  · repeat array_get_dec
    refine ⟨x, dx, t, p, d, 1 + 1, rfl, (eO _ _).symm, by omega, ht, by omega, m, by omega, rds_bind q (fun a p1 d1 e1 q => ?_) fun _ _ h => h⟩
    have k1 := pr_inv _ _ _ _ _ _ _ e1
    unfold Fwd at k1
    rw [eO]
    repeat array_get_dec
    refine xs_while (fun f ρ' o' => Hold (∃ (a : Tr) (p d : Nat) (x3 x4 : Sl), o' = insOb K T.a_Reader x dx (rdF t p d) ∧ ρ' = [.raw (.ref x), .val (nI 1), .val a.toD, x3, x4] ∧ p ≤ (ksT t).length ∧ f ≤ m ∧ RdS K x dx t (pr t (ksT t) f (.eloop 1 a) p d) Tr.toD R X)) m (hold ⟨a, p1, d1, _, _, rfl, rfl, by omega, Nat.le_refl _, q⟩) ?_
    clear q k1 e1
    rintro f _ _ ⟨a, p, d, x3, x4, rfl, rfl, hp, hf, q⟩
    cases f with
    | zero => exact q.elim
    | succ f =>
    have q : RdS K x dx t (if fx t (ksT t) p = lvS 1 then (pr t (ksT t) f (.either (1 + 1)) (p + 1) d).bind fun z p' d => pr t (ksT t) f (.eloop 1 (.bin a.s z.e (fx t (ksT t) p) a z)) p' d else .ok a p d) Tr.toD R X := q
    repeat array_get_dec
    refine ⟨x, dx, t, p, d, rfl, (eO _ _).symm, ht, ?_⟩
    repeat array_get_dec
    refine xr_ixT (atD_of (j := 1) rfl rfl) ?_
    repeat array_get_dec
    refine xr_inTs ?_
    rw [show decide (fx t (ksT t) p ∈ (["and"] : List Str)) = decide (fx t (ksT t) p = lvS 1) from decide_eq_decide.mpr List.mem_singleton]
    repeat array_get_dec
    refine bs_d (fun c => ?_) fun c => ?_
    · have := fx_lt c (lvS_ne 1)
      rw [if_pos c] at q
      repeat array_get_dec
      refine ⟨x, dx, t, p, d, rfl, (eO _ _).symm, ht, ?_⟩
      repeat array_get_dec
      refine ⟨x, dx, t, p + 1, d, 1 + 1, rfl, (eO _ _).symm, by omega, ht, by omega, f, by omega, rds_bind q (fun b2 p2 d2 e2 q => ?_) fun _ _ h => h⟩
      have k2 := pr_inv _ _ _ _ _ _ _ e2
      unfold Fwd at k2
      obtain ⟨wa, ra, ha⟩ := a.toD_eq
      obtain ⟨wb, rb, hb⟩ := b2.toD_eq
      rw [eO, ha, hb]
      repeat array_get_dec
      refine xr_ixT (atD_of (j := 1) rfl rfl) ?_
      repeat array_get_dec
      refine xr_ixT (atD_of (j := 2) rfl rfl) ?_
      repeat array_get_dec
      refine ⟨f, by omega, hold ⟨_, p2, d2, .val (.str (fx t (ksT t) p)), .val b2.toD, rfl, ?_, by omega, by omega, q⟩⟩
      simp only [List.set_cons_succ, List.set_cons_zero, Tr.toD, ha, hb]
      try rfl
    · rw [if_neg c] at q
      have q : R (.d a.toD) (rdOb K x dx t p d) := q
      rw [eO] at q
      repeat array_get_dec
      exact q
theorem dig_occ (c : Nat) (h0 : 48 ≤ c) (h1 : c ≤ 57) : ∃ rest, Builtin.Str.occurrences k_DIGITS ⟨#[c]⟩ 0 k_DIGITS.length 1 = (c - 48) :: rest := by
  obtain ⟨j, rfl⟩ : ∃ j, c = 48 + j := ⟨c - 48, by omega⟩
  have hj : j ≤ 9 := by omega
  match j, hj with
  | 0, _ => exact ⟨[], by decide +kernel⟩
  | 1, _ => exact ⟨[], by decide +kernel⟩
  | 2, _ => exact ⟨[], by decide +kernel⟩
  | 3, _ => exact ⟨[], by decide +kernel⟩
  | 4, _ => exact ⟨[], by decide +kernel⟩
  | 5, _ => exact ⟨[], by decide +kernel⟩
  | 6, _ => exact ⟨[], by decide +kernel⟩
  | 7, _ => exact ⟨[], by decide +kernel⟩
  | 8, _ => exact ⟨[], by decide +kernel⟩
  | 9, _ => exact ⟨[], by decide +kernel⟩
theorem numV_snoc (l : List Nat) (c : Nat) : numV (l ++ [c]) = (numV l * 10 + (c - 48)) % 4294967296 := by
  unfold numV
  rw [List.foldl_append]; rfl
theorem ok_number_value (T : Txt K mg)  : FnOk P w K mg base CX0 1 T.a_number_value T.fd_number_value ["digits"] (spD K (S_number_value K)) := by
  refine fnD T.F_number_value sc_number_value ?len fun cdv A outer s H E hr => ?body
  case len => intro dvs o R X h; first | (obtain ⟨rfl, _⟩ := h; rfl) | (obtain ⟨_, rfl, _⟩ := h; rfl) | (obtain ⟨_, _, rfl, _⟩ := h; rfl) | (obtain ⟨_, _, _, rfl, _⟩ := h; rfl) | (obtain ⟨_, _, _, _, rfl, _⟩ := h; rfl) | (obtain ⟨_, _, _, _, _, rfl, _⟩ := h; rfl) | (obtain ⟨_, _, _, _, _, _, rfl, _⟩ := h; rfl) | (obtain ⟨_, _, _, _, _, _, _, rfl, _⟩ := h; rfl) | (obtain ⟨_, _, _, _, _, _, _, _, rfl, _⟩ := h; rfl) | (obtain ⟨_, _, _, _, _, _, _, _, _, rfl, _⟩ := h; rfl) | (obtain ⟨_, _, _, _, _, _, _, _, _, _, rfl, _⟩ := h; rfl) | (obtain ⟨_, _, _, _, _, _, _, _, _, _, _, rfl, _⟩ := h; rfl) | (obtain ⟨_, _, _, _, _, _, _, _, _, _, _, _, rfl, _⟩ := h; rfl)
  have nd := sc_number_value.nd
  have hu := hu_of hr
  refine ⟨_, (pss_cons (ps_set (i := 1) nd rfl (Or.inl rfl) pe_int) (pss_cons (ps_for PassesOwn.never rfl (pi_str (pv 0)) (pg_name (i := 2) nd rfl (Or.inl rfl)) (pss_one (ps_set (i := 1) nd rfl (Or.inl rfl) (pe_op op_modN (pe_op (DL.op_addK (K := K) rfl) (pe_op DL.op_mulU (pv 1) pe_int) (DL.pe_bmK (K := K) rfl (pe_bm PySem.F.plainAttrs_str PySem.F.slot_str_index PySem.F.type_str_index mt_sindex (pe_glob (v := .str k_DIGITS) (by rfl) (T.c_DIGITS).choose_spec ⟨_, rfl⟩) (pa_cons (pv 2) pa_nil)))) pe_int)))) (pss_one (ps_ret (pv 1))))), ?_⟩
  intro dvs o R X h
  have st : ∀ z, dvs = z → startD N_number_value.length dvs = startD 3 z := fun z e => by rw [e]; rfl
  obtain ⟨z, rfl, hz, q⟩ := h
  rw [st _ rfl]; clear st; simp only [startD, toSl, List.map_cons, List.map_nil, List.length_cons, List.length_nil, List.cons_append, List.nil_append, List.append_nil, Nat.reduceAdd, Nat.reduceSub, List.reduceReplicate, Nat.zero_add, List.replicate_zero, Nat.sub_self]
  repeat array_get_dec
  refine xs_forS (xe_vd rfl ⟨z, rfl, fun k ρ' o' => Hold (o' = o ∧ ∃ x, ρ' = [.val (.str z), .val (nI (numV ((TL.tl z).take k))), x]), hold ⟨rfl, _, rfl⟩, ?_, ?_⟩)
  · rintro k c _ _ hc ⟨rfl, x, rfl⟩
    have hc : (TL.tl z)[k]? = some c := by rw [← hc]; exact Array.getElem?_toList
    obtain ⟨h0, h1⟩ := hz c (List.mem_of_getElem? hc)
    obtain ⟨rest, ho⟩ := dig_occ c h0 h1
    refine xg_nd ?_
    repeat array_get_dec
    refine xr_mulI (.inr ⟨by decide, by decide⟩) ?_
    repeat array_get_dec
    refine xm_sindex ho ?_
    repeat array_get_dec
    refine xr_fmod (by decide) ?_
    repeat array_get_dec
    refine hold ⟨rfl, .val (.str ⟨#[c]⟩), ?_⟩
    rw [take_snoc hc, numV_snoc]
    have e := Int.fmod_eq_emod_of_nonneg ((numV ((TL.tl z).take k) : Int) * 10 + ((c - 48 : Nat) : Int)) (show (0 : Int) ≤ 4294967296 by decide)
    rw [e]
    simp only [List.set_cons_succ, List.set_cons_zero]
    rfl
  · rintro _ _ ⟨rfl, x, rfl⟩
    repeat array_get_dec
    rw [List.take_of_length_le (by show (TL.tl z).length ≤ z.cps.size; exact Nat.le_of_eq (len_tl z).symm)]
    exact q
theorem ok_Reader_simple (T : Txt K mg) (n : Nat) (G_Reader_place : FnOk P w K mg base CX0 1 T.a_Reader_place T.fd_Reader_place ["self"] (spD K (S_Reader_place K))) (G_Reader_sort_now : FnOk P w K mg base CX0 1 T.a_Reader_sort_now T.fd_Reader_sort_now ["self"] (spD K (S_Reader_sort_now K))) (G_Reader_fixed : FnOk P w K mg base CX0 2 T.a_Reader_fixed T.fd_Reader_fixed ["self"] (spD K (S_Reader_fixed K))) (G_Reader_try_take : FnOk P w K mg base CX0 3 T.a_Reader_try_take T.fd_Reader_try_take ["self", "expected"] (spD K (S_Reader_try_take K))) (G_Reader_value : FnOk P w K mg base (L2N.CX P w) (n + 6) T.a_Reader_value T.fd_Reader_value ["self"] (spD K (S_Reader_value n K))) (G_Reader_take : FnOk P w K mg base (L2N.CX P w) 4 T.a_Reader_take T.fd_Reader_take ["self", "expected"] (spD K (S_Reader_take K))) (G_Reader_last_end : FnOk P w K mg base CX0 1 T.a_Reader_last_end T.fd_Reader_last_end ["self"] (spD K (S_Reader_last_end K))) (G_Reader_mark : FnOk P w K mg base (L2N.CX P w) 4 T.a_Reader_mark T.fd_Reader_mark ["self"] (spD K (S_Reader_mark K))) (G_Reader_arguments : FnOk P w K mg base (L2N.CX P w) (n + 6) T.a_Reader_arguments T.fd_Reader_arguments ["self"] (spD K (S_Reader_arguments n K))) (G_number_value : FnOk P w K mg base CX0 1 T.a_number_value T.fd_number_value ["digits"] (spD K (S_number_value K))) : FnOk P w K mg base (L2N.CX P w) (n + 7) T.a_Reader_simple T.fd_Reader_simple ["self"] (spD K (S_Reader_simple (n + 1) K)) := by
  refine fnDXN T.F_Reader_simple sc_Reader_simple ?len fun cdv A outer s H E hr => ?body
  case len => intro dvs o R X h; first | (obtain ⟨rfl, _⟩ := h; rfl) | (obtain ⟨_, rfl, _⟩ := h; rfl) | (obtain ⟨_, _, rfl, _⟩ := h; rfl) | (obtain ⟨_, _, _, rfl, _⟩ := h; rfl) | (obtain ⟨_, _, _, _, rfl, _⟩ := h; rfl) | (obtain ⟨_, _, _, _, _, rfl, _⟩ := h; rfl) | (obtain ⟨_, _, _, _, _, _, rfl, _⟩ := h; rfl) | (obtain ⟨_, _, _, _, _, _, _, rfl, _⟩ := h; rfl) | (obtain ⟨_, _, _, _, _, _, _, _, rfl, _⟩ := h; rfl) | (obtain ⟨_, _, _, _, _, _, _, _, _, rfl, _⟩ := h; rfl) | (obtain ⟨_, _, _, _, _, _, _, _, _, _, rfl, _⟩ := h; rfl) | (obtain ⟨_, _, _, _, _, _, _, _, _, _, _, rfl, _⟩ := h; rfl) | (obtain ⟨_, _, _, _, _, _, _, _, _, _, _, _, rfl, _⟩ := h; rfl)
  have nd := sc_Reader_simple.nd
  have hu := hu_of hr
  refine ⟨_, (pss_cons (ps_asg (pe_meth0 (pv 0) T.cl_Reader T.m_Reader_place G_Reader_place (hr.mono (by first | decide | omega)) T.b_Reader_place .nil pass0) (DL.pg_tupK (K := K) (n := 2) rfl (pg_tup (by rfl) (pgs_cons (pg_name (i := 1) nd rfl (Or.inl rfl)) (pgs_cons (pg_name (i := 2) nd rfl (Or.inl rfl)) pgs_nil))))) (pss_cons (ps_if (pt_cmpR (DL.op_eqK (K := K) rfl hr.units) (pe_meth0 (pv 0) T.cl_Reader T.m_Reader_sort_now G_Reader_sort_now (hr.mono (by first | decide | omega)) T.b_Reader_sort_now .nil pass0) pe_str (nomark _)) (pss_cons (DL.ps_fldaugK (K := K) rfl (pv 0) pe_int in_add) (pss_one (ps_ret (pe_tup (pa_cons pe_str (pa_cons (pv 1) (pa_cons (pv 2) (pa_cons (pe_call G_number_value (hr.mono (by first | decide | omega)) (by rfl) T.g_number_value T.F_number_value.kp T.b_number_value .nil pass0 (pa_cons (pe_slice (DL.sl_K (K := K) rfl) (DL.pe_fldK (K := K) rfl (pv 0) rfl) (po_some (pv 1)) (po_some (pv 2))) pa_nil)) pa_nil)))))))) pss_nil) (pss_cons (ps_if (PW.pt (pw_or (pt_cmpR (DL.op_eqK (K := K) rfl hr.units) (pe_meth0 (pv 0) T.cl_Reader T.m_Reader_fixed G_Reader_fixed (hr.mono (by first | decide | omega)) T.b_Reader_fixed .nil pass0) pe_str (nomark _)) (pw_or1 (pt_cmpR (DL.op_eqK (K := K) rfl hr.units) (pe_meth0 (pv 0) T.cl_Reader T.m_Reader_fixed G_Reader_fixed (hr.mono (by first | decide | omega)) T.b_Reader_fixed .nil pass0) pe_str (nomark _))))) (pss_cons (DL.ps_fldaugK (K := K) rfl (pv 0) pe_int in_add) (pss_one (ps_ret (pe_tup (pa_cons pe_str (pa_cons (pv 1) (pa_cons (pv 2) (pa_cons (pe_cmpR (DL.op_eqK (K := K) rfl hr.units) (pe_slice (DL.sl_K (K := K) rfl) (DL.pe_fldK (K := K) rfl (pv 0) rfl) (po_some (pv 1)) (po_some (pv 2))) pe_str (nomark _)) pa_nil)))))))) pss_nil) (pss_cons (ps_if (pt_val (pe_meth (pv 0) T.cl_Reader T.m_Reader_try_take G_Reader_try_take (hr.mono (by first | decide | omega)) T.b_Reader_try_take .nil pass0 (pa_cons pe_str pa_nil))) (pss_cons (ps_set (i := 3) nd rfl (Or.inl rfl) (DL.pe_methW0 (pv 0) T.cl_Reader T.m_Reader_value G_Reader_value (hr.mono (by first | decide | omega)) T.b_Reader_value (fun σ => L2N.passAt (L2N.takes_of rfl rfl rfl rfl) σ))) (pss_cons (ps_expr (DL.pe_methW (pv 0) T.cl_Reader T.m_Reader_take G_Reader_take (hr.mono (by first | decide | omega)) T.b_Reader_take (fun σ => L2N.passAt (L2N.takes_of rfl rfl rfl rfl) σ) (pa_cons pe_str pa_nil))) (pss_one (ps_ret (pe_tup (pa_cons pe_str (pa_cons (pv 1) (pa_cons (pe_meth0 (pv 0) T.cl_Reader T.m_Reader_last_end G_Reader_last_end (hr.mono (by first | decide | omega)) T.b_Reader_last_end .nil pass0) (pa_cons (pv 3) pa_nil))))))))) pss_nil) (pss_cons (ps_asg (DL.pe_methW0 (pv 0) T.cl_Reader T.m_Reader_mark G_Reader_mark (hr.mono (by first | decide | omega)) T.b_Reader_mark (fun σ => L2N.passAt (L2N.takes_of rfl rfl rfl rfl) σ)) (DL.pg_tupK (K := K) (n := 2) rfl (pg_tup (by rfl) (pgs_cons (pg_name (i := 4) nd rfl (Or.inl rfl)) (pgs_cons (pg_name (i := 5) nd rfl (Or.inl rfl)) pgs_nil))))) (pss_cons (ps_if (pt_cmpR (DL.op_neK (K := K) rfl hr.units) (pe_meth0 (pv 0) T.cl_Reader T.m_Reader_fixed G_Reader_fixed (hr.mono (by first | decide | omega)) T.b_Reader_fixed .nil pass0) pe_str (nomark _)) (pss_one (ps_ret (pe_tup (pa_cons pe_str (pa_cons (pv 1) (pa_cons (pv 2) (pa_cons (pv 4) pa_nil))))))) pss_nil) (pss_cons (ps_set (i := 6) nd rfl (Or.inl rfl) (DL.pe_methW0 (pv 0) T.cl_Reader T.m_Reader_arguments G_Reader_arguments (hr.mono (by first | decide | omega)) T.b_Reader_arguments (fun σ => L2N.passAt (L2N.takes_of rfl rfl rfl rfl) σ))) (pss_one (ps_ret (pe_tup (pa_cons pe_str (pa_cons (pv 1) (pa_cons (pe_meth0 (pv 0) T.cl_Reader T.m_Reader_last_end G_Reader_last_end (hr.mono (by first | decide | omega)) T.b_Reader_last_end .nil pass0) (pa_cons (pv 4) (pa_cons (pv 6) pa_nil))))))))))))))), ?_⟩
  intro dvs o R X h
  have st : ∀ z, dvs = z → startD N_Reader_simple.length dvs = startD 7 z := fun z e => by rw [e]; rfl
  obtain ⟨x, dx, t, p, d, rfl, rfl, ht, hp, m, hm, q⟩ := h
  rw [st _ rfl]; clear st; simp only [startD, toSl, List.map_cons, List.map_nil, List.length_cons, List.length_nil, List.cons_append, List.nil_append, List.append_nil, Nat.reduceAdd, Nat.reduceSub, List.reduceReplicate, Nat.zero_add, List.replicate_zero, Nat.sub_self]
  have hs : sizeLine = 16777216 := sizeLine_eq
  have cl := T.cl_Reader
  have n1 := T.no_Reader_text
  have n2 := T.no_Reader_tokens
  have n3 := T.no_Reader_at
  have n4 := T.no_Reader_depth
  have eO : ∀ p d, rdOb K x dx t p d = insOb K T.a_Reader x dx (rdF t p d) := fun p d => by unfold rdOb; rw [rd_cls T]
  rw [eO]
  cases m with
  | zero => exact q.elim
  | succ m =>
  repeat array_get_dec
  refine ⟨x, dx, t, p, d, rfl, (eO _ _).symm, ht, ?_⟩
  repeat array_get_dec
  refine ⟨x, dx, t, p, d, rfl, (eO _ _).symm, ht, ?_⟩
  repeat array_get_dec
  refine bs_d (fun c => ?_) fun c => ?_
  · have q : RdS K x dx t (if srt (ksT t) p = "number" then .ok (Tr.num (plc (ksT t) p).1 (plc (ksT t) p).2 (numV (TL.tl (cutN t (plc (ksT t) p).1 (plc (ksT t) p).2)))) (p + 1) d else _) Tr.toD R X := q
    rw [if_pos c] at q
    have q : R (.d (.tuple [.str "number", nI (plc (ksT t) p).1, nI (plc (ksT t) p).2, nI (numV (TL.tl (cutN t (plc (ksT t) p).1 (plc (ksT t) p).2)))])) (rdOb K x dx t (p + 1) d) := q
    rw [eO] at q
    repeat array_get_dec
    refine xsl_S (by omega) ?_
    repeat array_get_dec
    refine ⟨_, rfl, num_dig c, ?_⟩
    repeat array_get_dec
    exact q
  · have q : RdS K x dx t (if srt (ksT t) p = "number" then _ else if fx t (ksT t) p = "True" ∨ fx t (ksT t) p = "False" then .ok (Tr.tru (plc (ksT t) p).1 (plc (ksT t) p).2 (decide (cutN t (plc (ksT t) p).1 (plc (ksT t) p).2 = "True"))) (p + 1) d
      else if fx t (ksT t) p = "(" then (pr t (ksT t) m .value (p + 1) d).bind fun x p' d => (takeR t (ksT t) ")" p' d).bind fun _ p' d => .ok (Tr.grp (plc (ksT t) p).1 (lend (ksT t) p') x) p' d
      else (markR t (ksT t) p d).bind fun mk p' d => if fx t (ksT t) p' = "(" then (pr t (ksT t) m .args p' d).bind fun x p' d => .ok (Tr.call (plc (ksT t) p).1 (lend (ksT t) p') mk.1 x.parts) p' d else .ok (Tr.nam (plc (ksT t) p).1 (plc (ksT t) p).2 mk.1) p' d) Tr.toD R X := q
    rw [if_neg c] at q
    have tru : fx t (ksT t) p = "True" ∨ fx t (ksT t) p = "False" → R (.d (.tuple [.str "truth", nI (plc (ksT t) p).1, nI (plc (ksT t) p).2, .bool (decide (cutN t (plc (ksT t) p).1 (plc (ksT t) p).2 = "True"))])) (insOb K T.a_Reader x dx (rdF t (p + 1) d)) := fun z => by
      rw [if_pos z] at q
      have q : R (.d (.tuple [.str "truth", nI (plc (ksT t) p).1, nI (plc (ksT t) p).2, .bool (decide (cutN t (plc (ksT t) p).1 (plc (ksT t) p).2 = "True"))])) (rdOb K x dx t (p + 1) d) := q
      rwa [eO] at q
    repeat array_get_dec
    refine ⟨x, dx, t, p, d, rfl, (eO _ _).symm, ht, ?_⟩
    repeat array_get_dec
    refine bs_d (fun c1 => ?_) fun c1 => ?_
    · have q := tru (.inl c1)
      repeat array_get_dec
      refine xsl_S (by omega) ?_
      repeat array_get_dec
      exact q
    · repeat array_get_dec
      refine ⟨x, dx, t, p, d, rfl, (eO _ _).symm, ht, ?_⟩
      repeat array_get_dec
      refine bs_d (fun c2 => ?_) fun c2 => ?_
      · have q := tru (.inr c2)
        repeat array_get_dec
        refine xsl_S (by omega) ?_
        repeat array_get_dec
        exact q
      · rw [if_neg (fun z => z.elim c1 c2)] at q
        clear tru
        repeat array_get_dec
        refine ⟨x, dx, t, p, d, _, rfl, (eO _ _).symm, ht, fun c3 => ?_, fun c3 => ?_⟩
        · have := fx_lt c3 (by decide +kernel)
          rw [if_pos c3] at q
          rw [eO]
          repeat array_get_dec
          refine ⟨x, dx, t, p + 1, d, rfl, (eO _ _).symm, ht, by omega, m, by omega, rds_bind q (fun a p1 d1 e1 q => ?_) fun _ _ h => h⟩
          have k1 := pr_inv _ _ _ _ _ _ _ e1
          unfold Fwd at k1
          rw [eO]
          repeat array_get_dec
          refine ⟨x, dx, t, p1, d1, _, rfl, (eO _ _).symm, ht, rds_bind q (fun _ p2 d2 e2 q => ?_) fun _ _ h => h⟩
          have k2 := takeR_ok (by decide +kernel) e2
          have q : R (.d _) (rdOb K x dx t p2 d2) := q
          rw [eO] at q
          rw [eO]
          repeat array_get_dec
          refine ⟨x, dx, t, p2, d2, rfl, (eO _ _).symm, ht, by omega, by omega, ?_⟩
          repeat array_get_dec
          exact q
        · rw [if_neg c3] at q
          repeat array_get_dec
          refine ⟨x, dx, t, p, d, rfl, (eO _ _).symm, ht, rds_bind q (fun mk p1 d1 e1 q => ?_) fun _ _ h => h⟩
          have k1 := markR_ok e1
          rw [eO]
          repeat array_get_dec
          refine ⟨x, dx, t, p1, d1, rfl, (eO _ _).symm, ht, ?_⟩
          repeat array_get_dec
          refine bs_nd (fun c4 => ?_) fun c4 => ?_
          · rw [if_neg c4] at q
            have q : R (.d _) (rdOb K x dx t p1 d1) := q
            rw [eO] at q
            repeat array_get_dec
            exact q
          · rw [if_pos c4] at q
            repeat array_get_dec
            refine ⟨x, dx, t, p1, d1, rfl, (eO _ _).symm, ht, by omega, m, by omega, rds_bind q (fun a p2 d2 e2 q => ?_) fun _ _ h => h⟩
            have k2 := pr_inv _ _ _ _ _ _ _ e2
            unfold Fwd at k2
            have q : R (.d _) (rdOb K x dx t p2 d2) := q
            rw [eO] at q
            rw [eO]
            repeat array_get_dec
            refine ⟨x, dx, t, p2, d2, rfl, (eO _ _).symm, ht, by omega, by omega, ?_⟩
            repeat array_get_dec
            exact q
theorem put_i2 (a d : PyData) : putFD "tokens" d ([("text", a)] : Fls) = ([("text", a), ("tokens", d)] : Fls) := by
  unfold putFD
  rw [if_neg (by decide +kernel)]; rfl
theorem put_i3 (a b d : PyData) : putFD "at" d ([("text", a), ("tokens", b)] : Fls) = ([("text", a), ("tokens", b), ("at", d)] : Fls) := by
  unfold putFD putFD
  rw [if_neg (by decide +kernel), if_neg (by decide +kernel)]; rfl
theorem put_i4 (a b c d : PyData) : putFD "depth" d ([("text", a), ("tokens", b), ("at", c)] : Fls) = ([("text", a), ("tokens", b), ("at", c), ("depth", d)] : Fls) := by
  unfold putFD putFD putFD
  rw [if_neg (by decide +kernel), if_neg (by decide +kernel), if_neg (by decide +kernel)]; rfl
theorem ok_Reader___init__ (T : Txt K mg) (G_SyntaxProblem___init__ : FnOk P w K mg base CX0 1 T.a_SyntaxProblem___init__ T.fd_SyntaxProblem___init__ ["self", "start", "end"] (spI2 T.e_SyntaxProblem "start" "end")) (G_tokens : FnOk P w K mg base CX0 4 T.a_tokens T.fd_tokens ["text"] (spD K (S_tokens K))) : FnOk P w K mg base (L2N.CX P w) 5 T.a_Reader___init__ T.fd_Reader___init__ ["self", "text"] (spD K (S_Reader___init__ K)) := by
  refine fnDXN T.F_Reader___init__ sc_Reader___init__ ?len fun cdv A outer s H E hr => ?body
  case len => intro dvs o R X h; first | (obtain ⟨rfl, _⟩ := h; rfl) | (obtain ⟨_, rfl, _⟩ := h; rfl) | (obtain ⟨_, _, rfl, _⟩ := h; rfl) | (obtain ⟨_, _, _, rfl, _⟩ := h; rfl) | (obtain ⟨_, _, _, _, rfl, _⟩ := h; rfl) | (obtain ⟨_, _, _, _, _, rfl, _⟩ := h; rfl) | (obtain ⟨_, _, _, _, _, _, rfl, _⟩ := h; rfl) | (obtain ⟨_, _, _, _, _, _, _, rfl, _⟩ := h; rfl) | (obtain ⟨_, _, _, _, _, _, _, _, rfl, _⟩ := h; rfl) | (obtain ⟨_, _, _, _, _, _, _, _, _, rfl, _⟩ := h; rfl) | (obtain ⟨_, _, _, _, _, _, _, _, _, _, rfl, _⟩ := h; rfl) | (obtain ⟨_, _, _, _, _, _, _, _, _, _, _, rfl, _⟩ := h; rfl) | (obtain ⟨_, _, _, _, _, _, _, _, _, _, _, _, rfl, _⟩ := h; rfl)
  have nd := sc_Reader___init__.nd
  have hu := hu_of hr
  refine ⟨_, (pss_cons (DL.ps_fldK (K := K) rfl (pv 0) (pv 1) rfl) (pss_cons (DL.ps_fldK (K := K) rfl (pv 0) (pe_call G_tokens (hr.mono (by first | decide | omega)) (by rfl) T.g_tokens T.F_tokens.kp T.b_tokens .nil pass0 (pa_cons (pv 1) pa_nil)) rfl) (pss_cons (DL.ps_fldK (K := K) rfl (pv 0) pe_int rfl) (pss_cons (DL.ps_fldK (K := K) rfl (pv 0) pe_int rfl) (pss_one (ps_if (pt_cmpR (op_gt) (pe_callB (DL.call_lenK (K := K) rfl) (by rfl) T.n_len (by decide +kernel) (pa_cons (DL.pe_fldK (K := K) rfl (pv 0) rfl) pa_nil)) (pe_glob (v := .int 300) (by rfl) (T.c_MOST_TOKENS).choose_spec ⟨_, rfl⟩) (nomark _)) (pss_one (DL.ps_raiseON rfl (L2N.takes_of rfl rfl rfl rfl) (DL.pmk_oexN T.o_SyntaxProblem T.j_SyntaxProblem T.h_SyntaxProblem G_SyntaxProblem___init__ (hr.mono (by first | decide | omega)) T.b_SyntaxProblem___init__ pass0 (by rfl) T.g_SyntaxProblem (pa_cons (pe_ix (DL.ix_K (K := K) rfl) (pe_ix (DL.ix_K (K := K) rfl) (DL.pe_fldK (K := K) rfl (pv 0) rfl) (pe_glob (v := .int 300) (by rfl) (T.c_MOST_TOKENS).choose_spec ⟨_, rfl⟩) (fun _ _ => rfl)) pe_int (fun _ _ => rfl)) (pa_cons (pe_ix (DL.ix_K (K := K) rfl) (pe_ix (DL.ix_K (K := K) rfl) (DL.pe_fldK (K := K) rfl (pv 0) rfl) (pe_glob (v := .int 300) (by rfl) (T.c_MOST_TOKENS).choose_spec ⟨_, rfl⟩) (fun _ _ => rfl)) pe_int (fun _ _ => rfl)) pa_nil))))) pss_nil)))))), ?_⟩
  intro dvs o R X h
  have st : ∀ z, dvs = z → startD N_Reader___init__.length dvs = startD 2 z := fun z e => by rw [e]; rfl
  obtain ⟨x, dx, t, rfl, rfl, ht, q, qx⟩ := h
  rw [st _ rfl]; clear st; simp only [startD, toSl, List.map_cons, List.map_nil, List.length_cons, List.length_nil, List.cons_append, List.nil_append, List.append_nil, Nat.reduceAdd, Nat.reduceSub, List.reduceReplicate, Nat.zero_add, List.replicate_zero, Nat.sub_self]
  have hs : sizeLine = 16777216 := sizeLine_eq
  have cl := T.cl_Reader
  have n1 := T.no_Reader_text
  have n2 := T.no_Reader_tokens
  have n3 := T.no_Reader_at
  have n4 := T.no_Reader_depth
  rw [rd_cls T]
  repeat array_get_dec
  refine xs_fldV (a := x) (dx := dx) cl n1 ?_
  repeat array_get_dec
  refine ⟨_, _, rfl, rfl, rfl, rfl, ?_⟩
  repeat array_get_dec
  refine xs_fldV (a := x) (dx := dx) cl n2 ?_
  repeat array_get_dec
  refine ⟨t, rfl, ht, ?_⟩
  refine ⟨_, _, rfl, rfl, rfl, rfl, ?_⟩
  have e1 : putFD "text" (PyData.str t) [] = ([("text", PyData.str t)] : Fls) := rfl
  rw [e1, put_i2]
  repeat array_get_dec
  refine xs_fldV (a := x) (dx := dx) cl n3 ?_
  repeat array_get_dec
  refine ⟨_, _, rfl, rfl, rfl, rfl, ?_⟩
  rw [put_i3]
  repeat array_get_dec
  refine xs_fldV (a := x) (dx := dx) cl n4 ?_
  repeat array_get_dec
  refine ⟨_, _, rfl, rfl, rfl, rfl, ?_⟩
  rw [put_i4]
  have eR : rdOb K x dx t 0 0 = insOb K T.a_Reader x dx ([("text", PyData.str t), ("tokens", PyData.list (toksD (TL.tl t))), ("at", PyData.int 0), ("depth", PyData.int 0)] : Fls) := by unfold rdOb; rw [rd_cls T]; rfl
  rw [eR] at q qx
  have hkl := ks_len t
  repeat array_get_dec
  rw [hkl]
  refine bs_d (fun c => ?_) fun c => ?_
  · have he := List.getElem?_eq_getElem (show 300 < (ksT t).length by omega)
    generalize (ksT t)[300] = k at he
    have hd := ks_at he
    have q := qx k he
    unfold tkD at hd
    repeat array_get_dec
    refine xs_raiseO ?_
    repeat array_get_dec
    refine xr_ixL isl_d (atD_of (j := 300) rfl hd) ?_
    repeat array_get_dec
    refine xr_ixT (atD_of (j := 1) rfl rfl) ?_
    repeat array_get_dec
    refine xr_ixL isl_d (atD_of (j := 300) rfl hd) ?_
    repeat array_get_dec
    refine xr_ixT (atD_of (j := 2) rfl rfl) ?_
    repeat array_get_dec
    refine ⟨_, _, rfl, ?_⟩
    exact q (.ref T.e_SyntaxProblem, some [("end", nI k.b), ("start", nI k.a)]) ⟨T.i_SyntaxProblem, rfl⟩
  · repeat array_get_dec
    exact q (by omega)
theorem ok_read_value (T : Txt K mg) (n : Nat) (G_Reader___init__ : FnOk P w K mg base (L2N.CX P w) 5 T.a_Reader___init__ T.fd_Reader___init__ ["self", "text"] (spD K (S_Reader___init__ K))) (G_Reader_value : FnOk P w K mg base (L2N.CX P w) (n + 6) T.a_Reader_value T.fd_Reader_value ["self"] (spD K (S_Reader_value n K)))
    (G_Reader_finish : FnOk P w K mg base (L2N.CX P w) 4 T.a_Reader_finish T.fd_Reader_finish ["self"] (spD K (S_Reader_finish K))) : FnOk P w K mg base (L2N.CX P w) (n + 8) T.a_read_value T.fd_read_value ["text"] (spD K (S_read_value n K)) := by
  refine fnDXN T.F_read_value sc_read_value ?len fun cdv A outer s H E hr => ?body
  case len => intro dvs o R X h; first | (obtain ⟨rfl, _⟩ := h; rfl) | (obtain ⟨_, rfl, _⟩ := h; rfl) | (obtain ⟨_, _, rfl, _⟩ := h; rfl) | (obtain ⟨_, _, _, rfl, _⟩ := h; rfl) | (obtain ⟨_, _, _, _, rfl, _⟩ := h; rfl) | (obtain ⟨_, _, _, _, _, rfl, _⟩ := h; rfl) | (obtain ⟨_, _, _, _, _, _, rfl, _⟩ := h; rfl) | (obtain ⟨_, _, _, _, _, _, _, rfl, _⟩ := h; rfl) | (obtain ⟨_, _, _, _, _, _, _, _, rfl, _⟩ := h; rfl) | (obtain ⟨_, _, _, _, _, _, _, _, _, rfl, _⟩ := h; rfl) | (obtain ⟨_, _, _, _, _, _, _, _, _, _, rfl, _⟩ := h; rfl) | (obtain ⟨_, _, _, _, _, _, _, _, _, _, _, rfl, _⟩ := h; rfl) | (obtain ⟨_, _, _, _, _, _, _, _, _, _, _, _, rfl, _⟩ := h; rfl)
  have nd := sc_read_value.nd
  have hu := hu_of hr
  refine ⟨_, (pss_cons (ps_set (i := 1) nd rfl (Or.inl rfl) (pe_make T.m_Reader___init__ G_Reader___init__ (hr.mono (by first | decide | omega)) (by rfl) T.g_Reader T.b_Reader___init__ .nil (L2N.passes_call (L2N.takes_of rfl rfl rfl rfl) fun _ _ _ _ h => h) (pa_cons (pv 0) pa_nil))) (pss_cons (ps_set (i := 2) nd rfl (Or.inl rfl) (DL.pe_methW0 (pv 1) T.cl_Reader T.m_Reader_value G_Reader_value (hr.mono (by first | decide | omega)) T.b_Reader_value (fun σ => L2N.passAt (L2N.takes_of rfl rfl rfl rfl) σ))) (pss_cons (ps_expr (DL.pe_methW0 (pv 1) T.cl_Reader T.m_Reader_finish G_Reader_finish (hr.mono (by first | decide | omega)) T.b_Reader_finish (fun σ => L2N.passAt (L2N.takes_of rfl rfl rfl rfl) σ))) (pss_one (ps_ret (pv 2)))))), ?_⟩
  intro dvs o R X h
  have st : ∀ z, dvs = z → startD N_read_value.length dvs = startD 3 z := fun z e => by rw [e]; rfl
  obtain ⟨t, rfl, ht, q1, q2⟩ := h
  rw [st _ rfl]; clear st; simp only [startD, toSl, List.map_cons, List.map_nil, List.length_cons, List.length_nil, List.cons_append, List.nil_append, List.append_nil, Nat.reduceAdd, Nat.reduceSub, List.reduceReplicate, Nat.zero_add, List.replicate_zero, Nat.sub_self]
  have hs : sizeLine = 16777216 := sizeLine_eq
  have cl := T.cl_Reader
  repeat array_get_dec
  refine xe_makeO rfl ?_
  repeat array_get_dec
  intro x dx
  have eO : ∀ p d, rdOb K x dx t p d = insOb K T.a_Reader x dx (rdF t p d) := fun p d => by unfold rdOb; rw [rd_cls T]
  refine ⟨x, dx, t, rfl, by rw [rd_cls T], ht, fun h3 => ⟨rfl, ?_⟩, fun k hk ex hx => q1 k hk ex _ hx⟩
  obtain ⟨m, hm, q2⟩ := q2 h3
  rw [eO]
  repeat array_get_dec
  refine xe_frame ?_
  repeat array_get_dec
  refine ⟨x, dx, t, 0, 0, rfl, (eO _ _).symm, ht, Nat.zero_le _, m, hm, ?_⟩
  unfold readV at q2
  cases e : pr t (ksT t) m .value 0 0 with
  | out => rw [e] at q2; exact q2.elim
  | bad s1 e1 =>
    rw [e] at q2
    exact rds_bad fun ex p d hx => q2 ex _ hx
  | ok a p d =>
    rw [e] at q2
    refine rds_ok ?_
    rw [eO]
    repeat array_get_dec
    refine xe_frame ?_
    repeat array_get_dec
    refine ⟨x, dx, t, p, d, rfl, (eO _ _).symm, ht, ?_⟩
    by_cases hp : (ksT t).length ≤ p
    · have q2 : (match (if (ksT t).length ≤ p then Rs.ok a p d else .bad (plc (ksT t) p).1 (plc (ksT t) p).2) with | .ok a _ _ => R (.d a.toD) o | .bad s e => ∀ (ex : Ex) (F : Ob), SynEx K s e ex → X ex (F.and o) | .out => False) := q2
      rw [if_pos hp] at q2
      rw [decide_eq_true hp]
      refine rds_ok (v := ()) ?_
      have hstop := hrest
      clear hrest
      repeat array_get_dec
      refine hstop _ _ (xs_drop1 ?_)
      repeat array_get_dec
      exact q2
    · have q2 : (match (if (ksT t).length ≤ p then Rs.ok a p d else .bad (plc (ksT t) p).1 (plc (ksT t) p).2) with | .ok a _ _ => R (.d a.toD) o | .bad s e => ∀ (ex : Ex) (F : Ob), SynEx K s e ex → X ex (F.and o) | .out => False) := q2
      rw [if_neg hp] at q2
      rw [decide_eq_false hp]
      exact rds_bad fun ex p d hx => q2 ex _ hx
/-- two objects: the tape and the text -/
local macro_rules | `(tactic| array_get_dec) => `(tactic| first
  | ((with_reducible show DL.XE _ (tDGet _ _) _ (Ob.and _ _) _); refine xe_outGet rfl ?_)
  | ((with_reducible show DL.XE _ (tDGet _ _) _ (dicOb _ _ _) _); refine xe_outG rfl ?_)
  | ((with_reducible show DL.XE _ (tCall (spD _ (S__law_take _)) _ _ _) _ (Ob.and _ _) _); refine xe_frame ?_)
  | ((with_reducible show DL.XE _ (tCall (spD _ (S__law_some_name _)) _ _ _) _ (Ob.and _ _) _); refine xe_frame ?_)
  | ((with_reducible show DL.XE _ (tCall (spD _ (S__law_put _)) _ _ _) _ (Ob.and _ _) _); refine xe_and2 ?_))

def gapC (g : Str) : Bool := gapB false (TL.tl g) && Nat.ble g.length 12 && (match (TL.tl g).head? with | some c => !isNam c && c != 61 | none => true)
theorem gapC_ok {g : Str} {b : Bool} (h : gapC g = true) (hb : b = true → TL.tl g ≠ []) : GapOk g b := by
  unfold gapC at h
  rw [Bool.and_eq_true, Bool.and_eq_true] at h
  refine ⟨h.1.1, Nat.ble_eq.mp h.1.2, hb, fun c hc => ?_⟩
  have h2 := h.2
  rw [hc] at h2
  have h2 : (!isNam c && c != 61) = true := h2
  rw [Bool.and_eq_true] at h2
  exact ⟨by simpa using h2.1, by simpa using h2.2⟩
theorem gaps_at (j : Nat) (hj : j < 5) : ∃ g : Str, ([PyData.str " ", .str "", .str "  ", .str "\n ", .str " # note)\n  "])[j]? = some (.str g) ∧ gapC g = true ∧ (g ≠ "" → TL.tl g ≠ []) := by
  match j, hj with
  | 0, _ => exact ⟨_, rfl, by decide +kernel, fun _ => by decide +kernel⟩
  | 1, _ => exact ⟨_, rfl, by decide +kernel, fun h => absurd rfl h⟩
  | 2, _ => exact ⟨_, rfl, by decide +kernel, fun _ => by decide +kernel⟩
  | 3, _ => exact ⟨_, rfl, by decide +kernel, fun _ => by decide +kernel⟩
  | 4, _ => exact ⟨_, rfl, by decide +kernel, fun _ => by decide +kernel⟩
theorem ok__law_put (T : Txt K mg)  : FnOk P w K mg base CX0 1 T.a__law_put T.fd__law_put ["_law_out", "_law_string"] (spD K (S__law_put K)) := by
  refine fnD T.F__law_put sc__law_put ?len fun cdv A outer s H E hr => ?body
  case len => intro dvs o R X h; first | (obtain ⟨rfl, _⟩ := h; rfl) | (obtain ⟨_, rfl, _⟩ := h; rfl) | (obtain ⟨_, _, rfl, _⟩ := h; rfl) | (obtain ⟨_, _, _, rfl, _⟩ := h; rfl) | (obtain ⟨_, _, _, _, rfl, _⟩ := h; rfl) | (obtain ⟨_, _, _, _, _, rfl, _⟩ := h; rfl) | (obtain ⟨_, _, _, _, _, _, rfl, _⟩ := h; rfl) | (obtain ⟨_, _, _, _, _, _, _, rfl, _⟩ := h; rfl) | (obtain ⟨_, _, _, _, _, _, _, _, rfl, _⟩ := h; rfl) | (obtain ⟨_, _, _, _, _, _, _, _, _, rfl, _⟩ := h; rfl) | (obtain ⟨_, _, _, _, _, _, _, _, _, _, rfl, _⟩ := h; rfl) | (obtain ⟨_, _, _, _, _, _, _, _, _, _, _, rfl, _⟩ := h; rfl) | (obtain ⟨_, _, _, _, _, _, _, _, _, _, _, _, rfl, _⟩ := h; rfl)
  have nd := sc__law_put.nd
  have hu := hu_of hr
  refine ⟨_, (pss_one (ps_dput hu (pv 0) pe_str (pe_op (DL.op_addK (K := K) rfl) (pe_dget hu (pv 0) pe_str (fun _ _ => rfl)) (pv 1)) rfl)), ?_⟩
  intro dvs o R X h
  have st : ∀ z, dvs = z → startD N__law_put.length dvs = startD 2 z := fun z e => by rw [e]; rfl
  obtain ⟨ω, t, z, rfl, rfl, hl, q⟩ := h
  rw [st _ rfl]; clear st; simp only [startD, toSl, List.map_cons, List.map_nil, List.length_cons, List.length_nil, List.cons_append, List.nil_append, List.append_nil, Nat.reduceAdd, Nat.reduceSub, List.reduceReplicate, Nat.zero_add, List.replicate_zero, Nat.sub_self]
  have hs : sizeLine = 16777216 := sizeLine_eq
  repeat array_get_dec
  refine xs_outPut rfl (xe_op (xe_outG rfl ?_))
  repeat array_get_dec
  refine xr_addS (by omega) ?_
  refine ⟨rfl, rfl, _, rfl, ?_⟩
  repeat array_get_dec
  exact q
theorem ok__law_gap (T : Txt K mg) (G__law_put : FnOk P w K mg base CX0 1 T.a__law_put T.fd__law_put ["_law_out", "_law_string"] (spD K (S__law_put K))) (G__law_take : FnOk P w K mg base CX0 1 T.a__law_take T.fd__law_take ["_law_tape_here", "_law_many"] (spD K (S__law_take K))) : FnOk P w K mg base CX0 2 T.a__law_gap T.fd__law_gap ["_law_tape_here", "_law_out", "_law_needed"] (spD K (S__law_gap K)) := by
  refine fnD T.F__law_gap sc__law_gap ?len fun cdv A outer s H E hr => ?body
  case len => intro dvs o R X h; first | (obtain ⟨rfl, _⟩ := h; rfl) | (obtain ⟨_, rfl, _⟩ := h; rfl) | (obtain ⟨_, _, rfl, _⟩ := h; rfl) | (obtain ⟨_, _, _, rfl, _⟩ := h; rfl) | (obtain ⟨_, _, _, _, rfl, _⟩ := h; rfl) | (obtain ⟨_, _, _, _, _, rfl, _⟩ := h; rfl) | (obtain ⟨_, _, _, _, _, _, rfl, _⟩ := h; rfl) | (obtain ⟨_, _, _, _, _, _, _, rfl, _⟩ := h; rfl) | (obtain ⟨_, _, _, _, _, _, _, _, rfl, _⟩ := h; rfl) | (obtain ⟨_, _, _, _, _, _, _, _, _, rfl, _⟩ := h; rfl) | (obtain ⟨_, _, _, _, _, _, _, _, _, _, rfl, _⟩ := h; rfl) | (obtain ⟨_, _, _, _, _, _, _, _, _, _, _, rfl, _⟩ := h; rfl) | (obtain ⟨_, _, _, _, _, _, _, _, _, _, _, _, rfl, _⟩ := h; rfl)
  have nd := sc__law_gap.nd
  have hu := hu_of hr
  refine ⟨_, (pss_cons (ps_set (i := 3) nd rfl (Or.inl rfl) (pe_lst (pa_cons pe_str (pa_cons pe_str (pa_cons pe_str (pa_cons pe_str (pa_cons pe_str pa_nil))))))) (pss_cons (ps_set (i := 4) nd rfl (Or.inl rfl) (pe_ix (DL.ix_K (K := K) rfl) (pv 3) (pe_op op_fdivN (pe_call G__law_take (hr.mono (by first | decide | omega)) (by rfl) T.g__law_take T.F__law_take.kp T.b__law_take .nil pass0 (pa_cons (pv 0) (pa_cons pe_int pa_nil))) pe_int) (fun _ _ => rfl))) (pss_cons (ps_if (PW.pt (pw_and (DL.pt_truK (K := K) rfl (pv 2) (by intro _; rfl)) (pw_and1 (pt_cmpR (DL.op_eqK (K := K) rfl hr.units) (pv 4) pe_str (nomark _))))) (pss_one (ps_set (i := 4) nd rfl (Or.inl rfl) pe_str)) pss_nil) (pss_one (ps_expr (pe_call G__law_put (hr.mono (by first | decide | omega)) (by rfl) T.g__law_put T.F__law_put.kp T.b__law_put .nil pass0 (pa_cons (pv 1) (pa_cons (pv 4) pa_nil)))))))), ?_⟩
  intro dvs o R X h
  have st : ∀ z, dvs = z → startD N__law_gap.length dvs = startD 5 z := fun z e => by rw [e]; rfl
  obtain ⟨τ, ω, t, b, rfl, rfl, hl, q⟩ := h
  rw [st _ rfl]; clear st; simp only [startD, toSl, List.map_cons, List.map_nil, List.length_cons, List.length_nil, List.cons_append, List.nil_append, List.append_nil, Nat.reduceAdd, Nat.reduceSub, List.reduceReplicate, Nat.zero_add, List.replicate_zero, Nat.sub_self]
  have hs : sizeLine = 16777216 := sizeLine_eq
  repeat array_get_dec
  refine ⟨τ, 20, rfl, rfl, by decide, by decide, fun k k0 k1 => ?_⟩
  repeat array_get_dec
  refine xr_fdiv ⟨show (4:Int) ≠ 0 by decide, show (4:Int).natAbs < 1073741824 by decide⟩ ?_
  have e2 := Int.fdiv_eq_ediv_of_nonneg k (show (0 : Int) ≤ 4 by decide)
  obtain ⟨g, hg, gc, gn⟩ := gaps_at (k.toNat / 4) (by omega)
  repeat array_get_dec
  refine xr_ixL isl_o (atD_of (j := k.toNat / 4) (by rw [e2]; omega) hg) ?_
  refine ⟨rfl, asr_d (hrest _ _ ?_)⟩
  clear hrest
  simp only [List.set_cons_succ, List.set_cons_zero]
  refine xs_cut (fun ρ' o' => Hold (o' = toOb K τ ω t ∧ ∃ (g : Str) (x3 : Sl), GapOk g b ∧ ρ' = [.raw (.ref τ), .raw (.ref ω), .val (.bool b), x3, .val (.str g)])) ?_ ?_
  · repeat array_get_dec
    cases b with
    | false =>
      repeat array_get_dec
      exact hold ⟨rfl, g, _, gapC_ok gc (fun z => nomatch z), rfl⟩
    | true =>
      repeat array_get_dec
      refine bs_d (fun c => ?_) fun c => ?_
      · repeat array_get_dec
        exact hold ⟨rfl, " ", _, gapC_ok (by decide +kernel) (fun _ => by decide +kernel), rfl⟩
      · repeat array_get_dec
        exact hold ⟨rfl, g, _, gapC_ok gc (fun _ => gn c), rfl⟩
  · rintro _ _ ⟨rfl, g, x3, gk, rfl⟩
    have gl := gk.2.1
    repeat array_get_dec
    refine ⟨ω, t, g, rfl, rfl, by omega, ?_⟩
    repeat array_get_dec
    exact q g gk
theorem eq_nil_snoc (l : List Nat) : l = [] ∨ ∃ (r : List Nat) (c : Nat), l = r ++ [c] := by
  rcases List.eq_nil_or_concat l with h | ⟨r, c, h⟩
  · exact .inl h
  · exact .inr ⟨r, c, by rw [h, List.concat_eq_append]⟩
theorem xe_orand {K : Kx} {ta tb tc td : TE} {ρ : List Sl} {o : Ob} {R : RD} {b1 b2 b3 b4 : Bool} (h1 : ∀ R' : RD, R' (.d (.bool b1)) ρ o → DL.XE K ta ρ o R') (h2 : ∀ R' : RD, R' (.d (.bool b2)) ρ o → DL.XE K tb ρ o R') (h3 : ∀ R' : RD, R' (.d (.bool b3)) ρ o → DL.XE K tc ρ o R') (h4 : ∀ R' : RD, R' (.d (.bool b4)) ρ o → DL.XE K td ρ o R')
    (r : R (.d (.bool ((b1 && b2) || (b3 && b4)))) ρ o) : DL.XE K (tOrV (tAndV ta tb) (tAndV tc td)) ρ o R := by
  have k : (b1 && b2) = false → DL.XE K (tAndV tc td) ρ o R := fun e => by
    rw [e, Bool.false_or] at r
    refine DL.xe_and (h3 _ ⟨b3, rfl, fun e3 => h4 _ ?_, fun e3 => ?_⟩)
    · rwa [e3, Bool.true_and] at r
    · rwa [e3, Bool.false_and] at r
  refine DL.xe_or (DL.xe_and (h1 _ ⟨b1, rfl, fun e1 => h2 _ ⟨b2, rfl, fun e2 => ?_, fun e2 => k (by rw [e1, e2]; rfl)⟩, fun e1 => ⟨false, rfl, fun z => (nomatch z), fun _ => k (by rw [e1]; rfl)⟩⟩))
  rwa [e1, e2] at r
local macro_rules | `(tactic| array_get_dec) => `(tactic| ((with_reducible show DL.XE _ (tOrV (tAndV _ _) (tAndV _ _)) _ _ _); apply xe_orand))
theorem last_cut {t : Str} {l : List Nat} {c : Nat} (h : TL.tl t = l ++ [c]) : cutS t (some (-1)) none = ⟨#[c]⟩ := by
  refine str_ext ?_
  have hl : t.length = l.length + 1 := by rw [len_tl, h, List.length_append]; rfl
  have e : HT.sIx t.length 0 (some (-1)) = l.length := by
    show (if (-1 : Int) < 0 then ((-1 : Int) + (t.length : Int)).toNat else min (-1 : Int).toNat t.length) = l.length
    rw [if_pos (by decide), hl]
    omega
  rw [tl_cut, e, HT.sIx_none, h, List.drop_left, hl, Nat.add_sub_cancel_left]
  rfl
theorem ok__law_token_out (T : Txt K mg) (G__law_gap : FnOk P w K mg base CX0 2 T.a__law_gap T.fd__law_gap ["_law_tape_here", "_law_out", "_law_needed"] (spD K (S__law_gap K))) (G__law_put : FnOk P w K mg base CX0 1 T.a__law_put T.fd__law_put ["_law_out", "_law_string"] (spD K (S__law_put K))) : FnOk P w K mg base CX0 3 T.a__law_token_out T.fd__law_token_out ["_law_tape_here", "_law_out", "_law_string"] (spD K (S__law_token_out K)) := by
  refine fnD T.F__law_token_out sc__law_token_out ?len fun cdv A outer s H E hr => ?body
  case len => intro dvs o R X h; first | (obtain ⟨rfl, _⟩ := h; rfl) | (obtain ⟨_, rfl, _⟩ := h; rfl) | (obtain ⟨_, _, rfl, _⟩ := h; rfl) | (obtain ⟨_, _, _, rfl, _⟩ := h; rfl) | (obtain ⟨_, _, _, _, rfl, _⟩ := h; rfl) | (obtain ⟨_, _, _, _, _, rfl, _⟩ := h; rfl) | (obtain ⟨_, _, _, _, _, _, rfl, _⟩ := h; rfl) | (obtain ⟨_, _, _, _, _, _, _, rfl, _⟩ := h; rfl) | (obtain ⟨_, _, _, _, _, _, _, _, rfl, _⟩ := h; rfl) | (obtain ⟨_, _, _, _, _, _, _, _, _, rfl, _⟩ := h; rfl) | (obtain ⟨_, _, _, _, _, _, _, _, _, _, rfl, _⟩ := h; rfl) | (obtain ⟨_, _, _, _, _, _, _, _, _, _, _, rfl, _⟩ := h; rfl) | (obtain ⟨_, _, _, _, _, _, _, _, _, _, _, _, rfl, _⟩ := h; rfl)
  have nd := sc__law_token_out.nd
  have hu := hu_of hr
  refine ⟨_, (pss_cons (ps_set (i := 3) nd rfl (Or.inl rfl) (pe_slice (DL.sl_K (K := K) rfl) (pe_dget hu (pv 1) pe_str (fun _ _ => rfl)) (po_some (pe_un un_neg pe_int)) po_none)) (pss_cons (ps_set (i := 4) nd rfl (Or.inl rfl) (pe_and (pe_cmpR (DL.op_neK (K := K) rfl hr.units) (pv 3) pe_str (nomark _)) (pe_one (pe_cmpR (DL.op_inK (K := K) rfl) (pv 3) pe_str (by rfl))))) (pss_cons (ps_set (i := 5) nd rfl (Or.inl rfl) (pe_cmpR (DL.op_inK (K := K) rfl) (pe_ix (DL.ix_K (K := K) rfl) (pv 2) pe_int (fun _ _ => rfl)) pe_str (by rfl))) (pss_cons (ps_if (pt_cmpR (DL.op_neK (K := K) rfl hr.units) (pe_dget hu (pv 1) pe_str (fun _ _ => rfl)) pe_str (nomark _)) (pss_one (ps_expr (pe_call G__law_gap (hr.mono (by first | decide | omega)) (by rfl) T.g__law_gap T.F__law_gap.kp T.b__law_gap .nil pass0 (pa_cons (pv 0) (pa_cons (pv 1) (pa_cons (pe_or (pe_and (pv 4) (pe_one (pv 5))) (pe_one (pe_and (pe_cmpR (DL.op_eqK (K := K) rfl hr.units) (pv 3) pe_str (nomark _)) (pe_one (pe_cmpR (DL.op_eqK (K := K) rfl hr.units) (pe_ix (DL.ix_K (K := K) rfl) (pv 2) pe_int (fun _ _ => rfl)) pe_str (nomark _)))))) pa_nil)))))) pss_nil) (pss_cons (ps_set (i := 6) nd rfl (Or.inl rfl) (pe_callB (DL.call_lenK (K := K) rfl) (by rfl) T.n_len (by decide +kernel) (pa_cons (pe_dget hu (pv 1) pe_str (fun _ _ => rfl)) pa_nil))) (pss_cons (ps_expr (pe_call G__law_put (hr.mono (by first | decide | omega)) (by rfl) T.g__law_put T.F__law_put.kp T.b__law_put .nil pass0 (pa_cons (pv 1) (pa_cons (pv 2) pa_nil)))) (pss_one (ps_ret (pv 6))))))))), ?_⟩
  intro dvs o R X h
  have st : ∀ z, dvs = z → startD N__law_token_out.length dvs = startD 7 z := fun z e => by rw [e]; rfl
  obtain ⟨τ, ω, t, z, ps, rfl, rfl, D, hw, hl, hz, q⟩ := h
  have hNam := mem_tab (L := ("abcdefghijklmnopqrstuvwxyzABCDEFGHIJKLMNOPQRSTUVWXYZ0123456789_" : Str).cps.toList) (p := isNam) (by decide +kernel) (by decide +kernel) isNam_big
  rw [st _ rfl]; clear st; simp only [startD, toSl, List.map_cons, List.map_nil, List.length_cons, List.length_nil, List.cons_append, List.nil_append, List.append_nil, Nat.reduceAdd, Nat.reduceSub, List.reduceReplicate, Nat.zero_add, List.replicate_zero, Nat.sub_self]
  have hs : sizeLine = 16777216 := sizeLine_eq
  have htl := len_tl t
  have hzl := len_tl z
  cases hzz : TL.tl z with
  | nil => rw [hzz] at hw; cases hw
  | cons zc zr =>
  have z0 : z.cps.toList[0]? = some zc := by show (TL.tl z)[0]? = _; rw [hzz]; rfl
  have pairs : ∀ g : Str, (TL.tl t = [] → g = "") → (∀ c, (TL.tl t).getLast? = some c → GapOk g ((isNam c && isNam zc) || (c == 61 && zc == 61))) → g.length ≤ 12 ∧ Doc (t ++ g ++ z) (ps ++ [⟨g, z⟩]) := fun g h0 h1 => by
    rcases eq_nil_snoc (TL.tl t) with ht | ⟨l, c, ht⟩
    · rw [h0 ht]
      exact ⟨by decide +kernel, D.snoc (by decide +kernel) hw (by rw [ht]; exact fun c d hc _ => nomatch hc)⟩
    · have hc : (TL.tl t).getLast? = some c := by rw [ht]; simp
      obtain ⟨g1, g2, g3, g4⟩ := h1 c hc
      refine ⟨g2, D.snoc g1 hw fun c' d hc' hd => ?_⟩
      obtain rfl : c' = c := Option.some.inj (hc'.symm.trans hc)
      cases hg : TL.tl g with
      | nil =>
        rw [hg, hzz] at hd
        obtain rfl : zc = d := by simpa using hd
        have hb : ((isNam c' && isNam zc) || (c' == 61 && zc == 61)) = false := by
          cases e : ((isNam c' && isNam zc) || (c' == 61 && zc == 61)) with
          | false => rfl
          | true => exact absurd hg (g3 e)
        rw [Bool.or_eq_false_iff, Bool.and_eq_false_iff, Bool.and_eq_false_iff] at hb
        refine ⟨fun h => hb.1.resolve_left (by rw [h]; decide), fun h h' => ?_⟩
        subst h h'
        exact hb.2.elim (fun z => nomatch z) fun z => nomatch z
      | cons u v =>
        rw [hg] at hd
        obtain rfl : u = d := by simpa using hd
        obtain ⟨k1, k2⟩ := g4 u (by rw [hg]; rfl)
        exact ⟨fun _ => k1, fun _ => k2⟩
  repeat array_get_dec
  refine xsl_S (by omega) ?_
  rcases eq_nil_snoc (TL.tl t) with ht | ⟨l, c, ht⟩
  · obtain rfl : t = "" := str_ext ht
    rw [show cutS ("" : Str) (some (-1)) none = "" by decide +kernel]
    repeat array_get_dec
    refine bs_nd (fun h => absurd rfl h) fun _ => ?_
    repeat array_get_dec
    refine xr_ixS (by omega) (atD_of (j := 0) rfl z0) ?_
    repeat array_get_dec
    refine bs_nd (fun h => absurd rfl h) fun _ => ?_
    repeat array_get_dec
    refine xc_lenS (by decide +kernel) ?_
    repeat array_get_dec
    refine ⟨ω, _, z, rfl, rfl, by omega, ?_⟩
    obtain ⟨g1, g2⟩ := pairs "" (fun _ => rfl) (fun c hc => by cases hc)
    repeat array_get_dec
    exact q "" g1 g2
  · rw [last_cut ht]
    have hc : (TL.tl t).getLast? = some c := by rw [ht]; simp
    have tn : t ≠ "" := fun e => by rw [e] at ht; exact absurd (congrArg List.length ht) (by rw [List.length_append]; show ¬ (0 = l.length + 1); omega)
    repeat array_get_dec
    refine bs_nd (fun _ => ?_) fun h => absurd (congrArg TL.tl h) (by show ¬ ([c] = []); simp)
    repeat array_get_dec
    rw [hNam]
    repeat array_get_dec
    refine xr_ixS (by omega) (atD_of (j := 0) rfl z0) ?_
    repeat array_get_dec
    rw [hNam]
    repeat array_get_dec
    refine bs_nd (fun _ => ?_) fun h => absurd h tn
    repeat array_get_dec
    · intro R' h
      repeat array_get_dec
      exact h
    · intro R' h
      repeat array_get_dec
      exact h
    · intro R' h
      repeat array_get_dec
      exact h
    · intro R' h
      repeat array_get_dec
      refine xr_ixS (by omega) (atD_of (j := 0) rfl z0) ?_
      repeat array_get_dec
      exact h
    have ec : decide ((⟨#[c]⟩ : Str) = "=") = (c == 61) := by
      by_cases h : c = 61
      · subst h; rfl
      · rw [decide_eq_false (fun z => h (by have := congrArg TL.tl z; exact List.head_eq_of_cons_eq this))]
        simp [h]
    have ez : decide ((⟨#[zc]⟩ : Str) = "=") = (zc == 61) := by
      by_cases h : zc = 61
      · subst h; rfl
      · rw [decide_eq_false (fun z => h (by have := congrArg TL.tl z; exact List.head_eq_of_cons_eq this))]
        simp [h]
    rw [ec, ez]
    repeat array_get_dec
    refine ⟨τ, ω, t, _, rfl, rfl, by omega, fun g gk => ?_⟩
    obtain ⟨g1, g2⟩ := pairs g (fun h => by rw [ht] at h; simp at h) (fun c' hc' => by
      obtain rfl : c' = c := Option.some.inj (hc'.symm.trans hc)
      exact gk)
    have hgl : (t ++ g).length = t.length + g.length := by rw [len_tl, app_tl, List.length_append, ← len_tl, ← len_tl]
    repeat array_get_dec
    refine xc_lenS (by omega) ?_
    repeat array_get_dec
    refine ⟨ω, _, z, rfl, rfl, by omega, ?_⟩
    repeat array_get_dec
    rw [hgl]
    exact q g g1 g2
theorem ok__law_some_name (T : Txt K mg) (G__law_take : FnOk P w K mg base CX0 1 T.a__law_take T.fd__law_take ["_law_tape_here", "_law_many"] (spD K (S__law_take K))) : FnOk P w K mg base CX0 2 T.a__law_some_name T.fd__law_some_name ["_law_tape_here"] (spD K (S__law_some_name K)) := by
  refine fnD T.F__law_some_name sc__law_some_name ?len fun cdv A outer s H E hr => ?body
  case len => intro dvs o R X h; first | (obtain ⟨rfl, _⟩ := h; rfl) | (obtain ⟨_, rfl, _⟩ := h; rfl) | (obtain ⟨_, _, rfl, _⟩ := h; rfl) | (obtain ⟨_, _, _, rfl, _⟩ := h; rfl) | (obtain ⟨_, _, _, _, rfl, _⟩ := h; rfl) | (obtain ⟨_, _, _, _, _, rfl, _⟩ := h; rfl) | (obtain ⟨_, _, _, _, _, _, rfl, _⟩ := h; rfl) | (obtain ⟨_, _, _, _, _, _, _, rfl, _⟩ := h; rfl) | (obtain ⟨_, _, _, _, _, _, _, _, rfl, _⟩ := h; rfl) | (obtain ⟨_, _, _, _, _, _, _, _, _, rfl, _⟩ := h; rfl) | (obtain ⟨_, _, _, _, _, _, _, _, _, _, rfl, _⟩ := h; rfl) | (obtain ⟨_, _, _, _, _, _, _, _, _, _, _, rfl, _⟩ := h; rfl) | (obtain ⟨_, _, _, _, _, _, _, _, _, _, _, _, rfl, _⟩ := h; rfl)
  have nd := sc__law_some_name.nd
  have hu := hu_of hr
  refine ⟨_, (pss_cons (ps_set (i := 1) nd rfl (Or.inl rfl) (pe_lst (pa_cons pe_str (pa_cons pe_str (pa_cons pe_str (pa_cons pe_str (pa_cons pe_str (pa_cons pe_str (pa_cons pe_str (pa_cons pe_str (pa_cons pe_str (pa_cons pe_str pa_nil)))))))))))) (pss_one (ps_ret (pe_ix (DL.ix_K (K := K) rfl) (pv 1) (pe_call G__law_take (hr.mono (by first | decide | omega)) (by rfl) T.g__law_take T.F__law_take.kp T.b__law_take .nil pass0 (pa_cons (pv 0) (pa_cons pe_int pa_nil))) (fun _ _ => rfl))))), ?_⟩
  intro dvs o R X h
  have st : ∀ z, dvs = z → startD N__law_some_name.length dvs = startD 2 z := fun z e => by rw [e]; rfl
  obtain ⟨τ, rfl, rfl, q⟩ := h
  rw [st _ rfl]; clear st; simp only [startD, toSl, List.map_cons, List.map_nil, List.length_cons, List.length_nil, List.cons_append, List.nil_append, List.append_nil, Nat.reduceAdd, Nat.reduceSub, List.reduceReplicate, Nat.zero_add, List.replicate_zero, Nat.sub_self]
  repeat array_get_dec
  refine ⟨τ, 10, rfl, rfl, by decide, by decide, fun k k0 k1 => ?_⟩
  obtain ⟨z, hz, zk⟩ := names_at k.toNat (by omega)
  repeat array_get_dec
  refine xr_ixL isl_o (atD_of (j := k.toNat) (by omega) hz) ?_
  repeat array_get_dec
  exact q z zk.s zk.w zk.l
theorem ok__law_leaf (T : Txt K mg) (G__law_take : FnOk P w K mg base CX0 1 T.a__law_take T.fd__law_take ["_law_tape_here", "_law_many"] (spD K (S__law_take K))) (G__law_token_out : FnOk P w K mg base CX0 3 T.a__law_token_out T.fd__law_token_out ["_law_tape_here", "_law_out", "_law_string"] (spD K (S__law_token_out K))) : FnOk P w K mg base CX0 4 T.a__law_leaf T.fd__law_leaf ["_law_tape_here", "_law_out", "_law_choice"] (spD K (S__law_leaf K)) := by
  refine fnD T.F__law_leaf sc__law_leaf ?len fun cdv A outer s H E hr => ?body
  case len => intro dvs o R X h; first | (obtain ⟨rfl, _⟩ := h; rfl) | (obtain ⟨_, rfl, _⟩ := h; rfl) | (obtain ⟨_, _, rfl, _⟩ := h; rfl) | (obtain ⟨_, _, _, rfl, _⟩ := h; rfl) | (obtain ⟨_, _, _, _, rfl, _⟩ := h; rfl) | (obtain ⟨_, _, _, _, _, rfl, _⟩ := h; rfl) | (obtain ⟨_, _, _, _, _, _, rfl, _⟩ := h; rfl) | (obtain ⟨_, _, _, _, _, _, _, rfl, _⟩ := h; rfl) | (obtain ⟨_, _, _, _, _, _, _, _, rfl, _⟩ := h; rfl) | (obtain ⟨_, _, _, _, _, _, _, _, _, rfl, _⟩ := h; rfl) | (obtain ⟨_, _, _, _, _, _, _, _, _, _, rfl, _⟩ := h; rfl) | (obtain ⟨_, _, _, _, _, _, _, _, _, _, _, rfl, _⟩ := h; rfl) | (obtain ⟨_, _, _, _, _, _, _, _, _, _, _, _, rfl, _⟩ := h; rfl)
  have nd := sc__law_leaf.nd
  have hu := hu_of hr
  refine ⟨_, (pss_cons (ps_if (pt_cmpR (DL.op_eqK (K := K) rfl hr.units) (pv 2) pe_int (nomark _)) (pss_cons (ps_set (i := 3) nd rfl (Or.inl rfl) (pe_ix (DL.ix_K (K := K) rfl) (pe_lst (pa_cons pe_str (pa_cons pe_str (pa_cons pe_str (pa_cons pe_str (pa_cons pe_str (pa_cons pe_str pa_nil))))))) (pe_call G__law_take (hr.mono (by first | decide | omega)) (by rfl) T.g__law_take T.F__law_take.kp T.b__law_take .nil pass0 (pa_cons (pv 0) (pa_cons pe_int pa_nil))) (fun _ _ => rfl))) (pss_cons (ps_set (i := 4) nd rfl (Or.inl rfl) (pe_call G__law_token_out (hr.mono (by first | decide | omega)) (by rfl) T.g__law_token_out T.F__law_token_out.kp T.b__law_token_out .nil pass0 (pa_cons (pv 0) (pa_cons (pv 1) (pa_cons (pv 3) pa_nil))))) (pss_one (ps_ret (pe_tup (pa_cons pe_str (pa_cons (pv 4) (pa_cons (pe_op (DL.op_addK (K := K) rfl) (pv 4) (pe_callB (DL.call_lenK (K := K) rfl) (by rfl) T.n_len (by decide +kernel) (pa_cons (pv 3) pa_nil))) (pa_cons (pe_op op_modN (pe_callTy (call_int1) (by rfl) T.n_int (by decide +kernel) (pa_cons (pe_callTy (call_int_str) (by rfl) T.n_int (by decide +kernel) (pa_cons (pv 3) pa_nil)) pa_nil)) pe_int) pa_nil))))))))) pss_nil) (pss_cons (ps_set (i := 5) nd rfl (Or.inl rfl) (pe_ix (DL.ix_K (K := K) rfl) (pe_lst (pa_cons pe_str (pa_cons pe_str pa_nil))) (pe_call G__law_take (hr.mono (by first | decide | omega)) (by rfl) T.g__law_take T.F__law_take.kp T.b__law_take .nil pass0 (pa_cons (pv 0) (pa_cons pe_int pa_nil))) (fun _ _ => rfl))) (pss_cons (ps_set (i := 4) nd rfl (Or.inl rfl) (pe_call G__law_token_out (hr.mono (by first | decide | omega)) (by rfl) T.g__law_token_out T.F__law_token_out.kp T.b__law_token_out .nil pass0 (pa_cons (pv 0) (pa_cons (pv 1) (pa_cons (pv 5) pa_nil))))) (pss_one (ps_ret (pe_tup (pa_cons pe_str (pa_cons (pv 4) (pa_cons (pe_op (DL.op_addK (K := K) rfl) (pv 4) (pe_callB (DL.call_lenK (K := K) rfl) (by rfl) T.n_len (by decide +kernel) (pa_cons (pv 5) pa_nil))) (pa_cons (pe_cmpR (DL.op_eqK (K := K) rfl hr.units) (pv 5) pe_str (nomark _)) pa_nil)))))))))), ?_⟩
  intro dvs o R X h
  have st : ∀ z, dvs = z → startD N__law_leaf.length dvs = startD 6 z := fun z e => by rw [e]; rfl
  obtain ⟨τ, ω, t, ps, c, rfl, rfl, D, hc, hl, q⟩ := h
  rw [st _ rfl]; clear st; simp only [startD, toSl, List.map_cons, List.map_nil, List.length_cons, List.length_nil, List.cons_append, List.nil_append, List.append_nil, Nat.reduceAdd, Nat.reduceSub, List.reduceReplicate, Nat.zero_add, List.replicate_zero, Nat.sub_self]
  have hs : sizeLine = 16777216 := sizeLine_eq
  repeat array_get_dec
  refine bs_d (fun c0 => ?_) fun c0 => ?_
  · repeat array_get_dec
    refine ⟨τ, 6, rfl, rfl, by decide, by decide, fun k k0 k1 => ?_⟩
    obtain ⟨z, hz, zk⟩ := digs_at k.toNat (by omega)
    obtain ⟨n, hn, hv⟩ := zk.v
    repeat array_get_dec
    refine xr_ixL isl_n (atD_of (j := k.toNat) (by omega) hz) ?_
    repeat array_get_dec
    refine ⟨τ, ω, t, z, ps, rfl, rfl, D, zk.w, hl, zk.l, fun g hg D' => ?_⟩
    have zl := zk.l
    repeat array_get_dec
    refine xc_lenS (by omega) ?_
    repeat array_get_dec
    refine xc_intS hn (by omega) ?_
    repeat array_get_dec
    refine xr_fmod (by decide) ?_
    repeat array_get_dec
    have e := Int.fmod_eq_emod_of_nonneg (n : Int) (show (0 : Int) ≤ 4294967296 by decide)
    have q := q (.num (t.length + g.length) (t.length + g.length + z.length) (numV (TL.tl z))) [⟨g, z⟩] _ (fun L dep => .num zk.s) D' (treeOk_one (Nat.le_refl _) (Nat.le_refl _) rfl hg zk.l)
    rw [e, show (n : Int) % 4294967296 = ((numV (TL.tl z) : Nat) : Int) by rw [← hv]; omega]
    exact q
  · repeat array_get_dec
    refine ⟨τ, 2, rfl, rfl, by decide, by decide, fun k k0 k1 => ?_⟩
    have hw : ∃ z : Str, ([PyData.str "True", .str "False"])[k.toNat]? = some (.str z) ∧ (z = "True" ∨ z = "False") ∧ wordB (TL.tl z) = true ∧ z.length ≤ 20 := by
      have h2 : k.toNat = 0 ∨ k.toNat = 1 := by omega
      rcases h2 with h2 | h2 <;> rw [h2]
      · exact ⟨_, rfl, .inl rfl, by decide +kernel, by decide +kernel⟩
      · exact ⟨_, rfl, .inr rfl, by decide +kernel, by decide +kernel⟩
    obtain ⟨z, hz, zt, zw, zl⟩ := hw
    repeat array_get_dec
    refine xr_ixL isl_n (atD_of (j := k.toNat) (by omega) hz) ?_
    repeat array_get_dec
    refine ⟨τ, ω, t, z, ps, rfl, rfl, D, zw, hl, zl, fun g hg D' => ?_⟩
    repeat array_get_dec
    refine xc_lenS (by omega) ?_
    repeat array_get_dec
    have q := q (.tru (t.length + g.length) (t.length + g.length + z.length) (decide (z = "True"))) [⟨g, z⟩] _ (fun L dep => .tru zt) D' (treeOk_one (Nat.le_refl _) (Nat.le_refl _) rfl hg zl)
    exact q
theorem ok__law_call (T : Txt K mg) (n : Nat) (G__law_take : FnOk P w K mg base CX0 1 T.a__law_take T.fd__law_take ["_law_tape_here", "_law_many"] (spD K (S__law_take K))) (G__law_some_name : FnOk P w K mg base CX0 2 T.a__law_some_name T.fd__law_some_name ["_law_tape_here"] (spD K (S__law_some_name K))) (G__law_token_out : FnOk P w K mg base CX0 3 T.a__law_token_out T.fd__law_token_out ["_law_tape_here", "_law_out", "_law_string"] (spD K (S__law_token_out K))) (G__law_tree : FnOk P w K mg base CX0 (2 * n + 6) T.a__law_tree T.fd__law_tree ["_law_tape_here", "_law_out", "_law_depth", "_law_level"] (spD K (S__law_tree n K))) : FnOk P w K mg base CX0 (2 * n + 7) T.a__law_call T.fd__law_call ["_law_tape_here", "_law_out", "_law_depth"] (spD K (S__law_call (n + 1) K)) := by
  refine fnD T.F__law_call sc__law_call ?len fun cdv A outer s H E hr => ?body
  case len => intro dvs o R X h; first | (obtain ⟨rfl, _⟩ := h; rfl) | (obtain ⟨_, rfl, _⟩ := h; rfl) | (obtain ⟨_, _, rfl, _⟩ := h; rfl) | (obtain ⟨_, _, _, rfl, _⟩ := h; rfl) | (obtain ⟨_, _, _, _, rfl, _⟩ := h; rfl) | (obtain ⟨_, _, _, _, _, rfl, _⟩ := h; rfl) | (obtain ⟨_, _, _, _, _, _, rfl, _⟩ := h; rfl) | (obtain ⟨_, _, _, _, _, _, _, rfl, _⟩ := h; rfl) | (obtain ⟨_, _, _, _, _, _, _, _, rfl, _⟩ := h; rfl) | (obtain ⟨_, _, _, _, _, _, _, _, _, rfl, _⟩ := h; rfl) | (obtain ⟨_, _, _, _, _, _, _, _, _, _, rfl, _⟩ := h; rfl) | (obtain ⟨_, _, _, _, _, _, _, _, _, _, _, rfl, _⟩ := h; rfl) | (obtain ⟨_, _, _, _, _, _, _, _, _, _, _, _, rfl, _⟩ := h; rfl)
  have nd := sc__law_call.nd
  have hu := hu_of hr
  refine ⟨_, (pss_cons (ps_set (i := 3) nd rfl (Or.inl rfl) (pe_call G__law_some_name (hr.mono (by first | decide | omega)) (by rfl) T.g__law_some_name T.F__law_some_name.kp T.b__law_some_name .nil pass0 (pa_cons (pv 0) pa_nil))) (pss_cons (ps_set (i := 4) nd rfl (Or.inl rfl) (pe_call G__law_token_out (hr.mono (by first | decide | omega)) (by rfl) T.g__law_token_out T.F__law_token_out.kp T.b__law_token_out .nil pass0 (pa_cons (pv 0) (pa_cons (pv 1) (pa_cons (pv 3) pa_nil))))) (pss_cons (ps_expr (pe_call G__law_token_out (hr.mono (by first | decide | omega)) (by rfl) T.g__law_token_out T.F__law_token_out.kp T.b__law_token_out .nil pass0 (pa_cons (pv 0) (pa_cons (pv 1) (pa_cons pe_str pa_nil))))) (pss_cons (ps_set (i := 5) nd rfl (Or.inl rfl) (pe_lst pa_nil)) (pss_cons (ps_for PassesOwn.never rfl (pi_range1 (by rfl) T.n_range (pa_cons (pe_call G__law_take (hr.mono (by first | decide | omega)) (by rfl) T.g__law_take T.F__law_take.kp T.b__law_take .nil pass0 (pa_cons (pv 0) (pa_cons pe_int pa_nil))) pa_nil)) (pg_name (i := 6) nd rfl (Or.inl rfl)) (pss_cons (ps_if (pt_cmpR (op_gt) (pv 6) pe_int (nomark _)) (pss_one (ps_expr (pe_call G__law_token_out (hr.mono (by first | decide | omega)) (by rfl) T.g__law_token_out T.F__law_token_out.kp T.b__law_token_out .nil pass0 (pa_cons (pv 0) (pa_cons (pv 1) (pa_cons pe_str pa_nil)))))) pss_nil) (pss_one (ps_expr (DL.pe_bmK (K := K) rfl (pe_bm PySem.F.plainAttrs_list PySem.F.slot_list_append PySem.F.type_list_append mt_append (pv 5) (pa_cons (pe_call G__law_tree (hr.mono (by first | decide | omega)) (by rfl) T.g__law_tree T.F__law_tree.kp T.b__law_tree .nil pass0 (pa_cons (pv 0) (pa_cons (pv 1) (pa_cons (pe_op op_sub (pv 2) pe_int) (pa_cons pe_int pa_nil))))) pa_nil))))))) (pss_cons (ps_set (i := 7) nd rfl (Or.inl rfl) (pe_op (DL.op_addK (K := K) rfl) (pe_call G__law_token_out (hr.mono (by first | decide | omega)) (by rfl) T.g__law_token_out T.F__law_token_out.kp T.b__law_token_out .nil pass0 (pa_cons (pv 0) (pa_cons (pv 1) (pa_cons pe_str pa_nil)))) pe_int)) (pss_one (ps_ret (pe_tup (pa_cons pe_str (pa_cons (pv 4) (pa_cons (pv 7) (pa_cons (pv 3) (pa_cons (pe_callTy (DL.call_tupK (K := K) rfl) (by rfl) T.n_tuple (by decide +kernel) (pa_cons (pv 5) pa_nil)) pa_nil)))))))))))))), ?_⟩
  intro dvs o R X h
  have st : ∀ z, dvs = z → startD N__law_call.length dvs = startD 8 z := fun z e => by rw [e]; rfl
  obtain ⟨τ, ω, t, ps, dep, rfl, rfl, D, hd0, hd1, hl, q⟩ := h
  rw [st _ rfl]; clear st; simp only [startD, toSl, List.map_cons, List.map_nil, List.length_cons, List.length_nil, List.cons_append, List.nil_append, List.append_nil, Nat.reduceAdd, Nat.reduceSub, List.reduceReplicate, Nat.zero_add, List.replicate_zero, Nat.sub_self]
  have hs : sizeLine = 16777216 := sizeLine_eq
  repeat array_get_dec
  refine ⟨τ, rfl, rfl, fun z z1 z2 z3 => ?_⟩
  repeat array_get_dec
  obtain ⟨d, rfl⟩ : ∃ d, dep = d + 1 := ⟨dep - 1, by omega⟩
  have hN : nB (d + 1) = 3 * nB d + 5 := rfl
  have hNp := nB_pos d
  refine ⟨τ, ω, t, z, ps, rfl, rfl, D, z2, by omega, by omega, fun g1 hg1 D1 => ?_⟩
  have l1 := D1.len
  have l0 := D.len
  rw [flen_app] at l1
  simp only [flen_cons, flen_nil] at l1
  repeat array_get_dec
  refine ⟨τ, ω, _, "(", _, rfl, rfl, D1, by decide +kernel, by omega, by decide +kernel, fun g2 hg2 D2 => ?_⟩
  have l2 := D2.len
  rw [flen_app, flen_app] at l2
  simp only [flen_cons, flen_nil] at l2
  repeat array_get_dec
  refine xs_forR1 ?_
  repeat array_get_dec
  refine ⟨τ, 4, rfl, rfl, by decide, by decide, fun m m0 m1 => ?_⟩
  repeat array_get_dec
  have e0 : (t ++ g1 ++ z ++ g2 ++ "(").length = t.length + flen [⟨g1, z⟩, ⟨g2, "("⟩] := by rw [l2, l0]; simp only [flen_cons, flen_nil]; omega
  generalize hT : t ++ g1 ++ z ++ g2 ++ "(" = t2 at *
  have hc1 : ("(" : Str).length = 1 := by decide +kernel
  refine ⟨by omega, by omega, fun k ρ' o' => Hold (∃ (parts : List Tr) (zs : List Pc) (t' : Str) (x6 : Sl), o' = toOb K τ ω t' ∧ Doc t' (ps ++ [⟨g1, z⟩] ++ [⟨g2, "("⟩] ++ zs) ∧ ArgsOk parts zs (t.length + flen [⟨g1, z⟩, ⟨g2, "("⟩]) d k ∧
    ρ' = [.raw (.ref τ), .raw (.ref ω), .val (nI (d + 1)), .val (.str z), .val (nI (t.length + g1.length)), .own (.lst (parts.map Tr.toD)), x6, .no]), hold ⟨[], [], t2, _, rfl, by rw [List.append_nil]; exact D2, args_nil _ _, rfl⟩, ?_, ?_⟩
  · rintro k _ _ hk ⟨parts, zs, t', x6, rfl, D', A, rfl⟩
    have hk2 : k < 3 := by omega
    have l3 := D'.len
    rw [flen_app, ← D2.len, e0] at l3
    have hb := A.b
    have hn := A.n
    have hm : k * (nB d + 1) ≤ 2 * (nB d + 1) := Nat.mul_le_mul_right _ (by omega)
    have hpl := A.p
    refine xg_nd ?_
    refine xs_cut (fun ρ' o' => Hold (∃ (cs : List Pc) (t3 : Str), o' = toOb K τ ω t3 ∧ Doc t3 (ps ++ [⟨g1, z⟩] ++ [⟨g2, "("⟩] ++ (zs ++ cs)) ∧ (k = 0 → cs = []) ∧ (0 < k → ∃ g : Str, g.length ≤ 12 ∧ cs = [⟨g, ","⟩]) ∧
      ρ' = [.raw (.ref τ), .raw (.ref ω), .val (nI (d + 1)), .val (.str z), .val (nI (t.length + g1.length)), .own (.lst (parts.map Tr.toD)), .val (.int (0 + (k : Int))), .no])) ?_ ?_
    · repeat array_get_dec
      refine bs_d (fun c => ?_) fun c => ?_
      · repeat array_get_dec
        refine ⟨τ, ω, t', ",", _, rfl, rfl, D', by decide +kernel, by omega, by decide +kernel, fun g3 hg3 D3 => ?_⟩
        repeat array_get_dec
        exact hold ⟨[⟨g3, ","⟩], _, rfl, by rw [← List.append_assoc]; exact D3, fun h => by omega, fun _ => ⟨g3, hg3, rfl⟩, rfl⟩
      · repeat array_get_dec
        exact hold ⟨[], t', rfl, by rw [List.append_nil]; exact D', fun _ => rfl, fun h => by omega, rfl⟩
    · rintro _ _ ⟨cs, t3, rfl, D3, c0, c1, rfl⟩
      have l4 := D3.len
      rw [flen_app, ← D2.len, e0, flen_app] at l4
      have hcs : flen cs ≤ 13 := by
        rcases Nat.eq_zero_or_pos k with h | h
        · rw [c0 h]; exact Nat.zero_le _
        · obtain ⟨g, hg, rfl⟩ := c1 h
          have : (("," : Str)).length = 1 := by decide +kernel
          simp only [flen_cons, flen_nil]; omega
      have e5 : ((d + 1 : Nat) : Int) - 1 = (d : Int) := by omega
      repeat array_get_dec
      rw [e5]
      refine ⟨τ, ω, t3, _, d, 0, rfl, rfl, D3, by omega, by omega, by simp only [flen_cons, flen_nil] at l4; omega, fun a ws t4 hp D4 T4 => ?_⟩
      have hp : Pri .val d t3.length a ws := hp
      repeat array_get_dec
      refine xm_append (by rw [List.length_map, hs]; omega) rfl ?_
      repeat array_get_dec
      refine hold ⟨parts ++ [a], zs ++ cs ++ ws, t4, .val (.int (k : Int)), rfl, by rw [List.append_assoc] at D4; exact D4, ?_, by simp⟩
      rcases Nat.eq_zero_or_pos k with h | h
      · subst h
        obtain rfl := c0 rfl
        obtain rfl := A.z rfl
        obtain rfl : parts = [] := List.eq_nil_of_length_eq_zero A.p
        have e6 : t3.length = t.length + flen [⟨g1, z⟩, ⟨g2, "("⟩] := by rw [l4]; simp only [flen_nil]; omega
        rw [e6] at hp
        exact args_one hp T4
      · obtain ⟨g, hg, rfl⟩ := c1 h
        have e6 : t3.length = t.length + flen [⟨g1, z⟩, ⟨g2, "("⟩] + flen (zs ++ [⟨g, ","⟩]) := by rw [l4, flen_app]; try omega
        rw [e6] at hp
        have := args_more A h hg hp T4
        rw [List.append_assoc]
        exact this
  · rintro _ _ ⟨parts, zs, t', x6, rfl, D', A, rfl⟩
    have l3 := D'.len
    rw [flen_app, ← D2.len, e0] at l3
    have hb := A.b
    have hn := A.n
    have hm : m.toNat * (nB d + 1) ≤ 3 * (nB d + 1) := Nat.mul_le_mul_right _ (by omega)
    repeat array_get_dec
    refine ⟨τ, ω, t', ")", _, rfl, rfl, D', by decide +kernel, by simp only [flen_cons, flen_nil] at l3; omega, by decide +kernel, fun g3 hg3 D3 => ?_⟩
    repeat array_get_dec
    refine xc_tupL isl_o ?_
    repeat array_get_dec
    obtain ⟨h1, h2⟩ := call_end (s := t.length) z1 z3 hg1 hg2 hg3 A (by omega)
    have q := q _ _ _ h1 (by simpa only [List.append_assoc, List.cons_append, List.nil_append] using D3) h2
    have e7 : t'.length + g3.length + 1 = t.length + flen (⟨g1, z⟩ :: ⟨g2, "("⟩ :: (zs ++ [⟨g3, ")"⟩])) := by
      rw [l3]
      have : ((")" : Str)).length = 1 := by decide +kernel
      simp only [flen_cons, flen_nil, flen_app]; omega
    rw [← e7] at q
    unfold Tr.toD at q
    rw [toDs_map] at q
    exact q
theorem ok__law_reach (T : Txt K mg) (n : Nat) (G__law_take : FnOk P w K mg base CX0 1 T.a__law_take T.fd__law_take ["_law_tape_here", "_law_many"] (spD K (S__law_take K))) (G__law_some_name : FnOk P w K mg base CX0 2 T.a__law_some_name T.fd__law_some_name ["_law_tape_here"] (spD K (S__law_some_name K))) (G__law_token_out : FnOk P w K mg base CX0 3 T.a__law_token_out T.fd__law_token_out ["_law_tape_here", "_law_out", "_law_string"] (spD K (S__law_token_out K))) (G__law_tree : FnOk P w K mg base CX0 (2 * n + 6) T.a__law_tree T.fd__law_tree ["_law_tape_here", "_law_out", "_law_depth", "_law_level"] (spD K (S__law_tree n K))) : FnOk P w K mg base CX0 (2 * n + 7) T.a__law_reach T.fd__law_reach ["_law_tape_here", "_law_out", "_law_depth"] (spD K (S__law_reach (n + 1) K)) := by
  refine fnD T.F__law_reach sc__law_reach ?len fun cdv A outer s H E hr => ?body
  case len => intro dvs o R X h; first | (obtain ⟨rfl, _⟩ := h; rfl) | (obtain ⟨_, rfl, _⟩ := h; rfl) | (obtain ⟨_, _, rfl, _⟩ := h; rfl) | (obtain ⟨_, _, _, rfl, _⟩ := h; rfl) | (obtain ⟨_, _, _, _, rfl, _⟩ := h; rfl) | (obtain ⟨_, _, _, _, _, rfl, _⟩ := h; rfl) | (obtain ⟨_, _, _, _, _, _, rfl, _⟩ := h; rfl) | (obtain ⟨_, _, _, _, _, _, _, rfl, _⟩ := h; rfl) | (obtain ⟨_, _, _, _, _, _, _, _, rfl, _⟩ := h; rfl) | (obtain ⟨_, _, _, _, _, _, _, _, _, rfl, _⟩ := h; rfl) | (obtain ⟨_, _, _, _, _, _, _, _, _, _, rfl, _⟩ := h; rfl) | (obtain ⟨_, _, _, _, _, _, _, _, _, _, _, rfl, _⟩ := h; rfl) | (obtain ⟨_, _, _, _, _, _, _, _, _, _, _, _, rfl, _⟩ := h; rfl)
  have nd := sc__law_reach.nd
  have hu := hu_of hr
  refine ⟨_, (pss_cons (ps_set (i := 3) nd rfl (Or.inl rfl) (pe_call G__law_tree (hr.mono (by first | decide | omega)) (by rfl) T.g__law_tree T.F__law_tree.kp T.b__law_tree .nil pass0 (pa_cons (pv 0) (pa_cons (pv 1) (pa_cons pe_int (pa_cons pe_int pa_nil)))))) (pss_cons (ps_for PassesOwn.never rfl (pi_range1 (by rfl) T.n_range (pa_cons (pe_op (DL.op_addK (K := K) rfl) pe_int (pe_call G__law_take (hr.mono (by first | decide | omega)) (by rfl) T.g__law_take T.F__law_take.kp T.b__law_take .nil pass0 (pa_cons (pv 0) (pa_cons pe_int pa_nil)))) pa_nil)) (pg_name (i := 4) nd rfl (Or.inl rfl)) (pss_cons (ps_expr (pe_call G__law_token_out (hr.mono (by first | decide | omega)) (by rfl) T.g__law_token_out T.F__law_token_out.kp T.b__law_token_out .nil pass0 (pa_cons (pv 0) (pa_cons (pv 1) (pa_cons pe_str pa_nil))))) (pss_cons (ps_set (i := 5) nd rfl (Or.inl rfl) (pe_call G__law_some_name (hr.mono (by first | decide | omega)) (by rfl) T.g__law_some_name T.F__law_some_name.kp T.b__law_some_name .nil pass0 (pa_cons (pv 0) pa_nil))) (pss_cons (ps_set (i := 6) nd rfl (Or.inl rfl) (pe_op (DL.op_addK (K := K) rfl) (pe_call G__law_token_out (hr.mono (by first | decide | omega)) (by rfl) T.g__law_token_out T.F__law_token_out.kp T.b__law_token_out .nil pass0 (pa_cons (pv 0) (pa_cons (pv 1) (pa_cons (pv 5) pa_nil)))) (pe_callB (DL.call_lenK (K := K) rfl) (by rfl) T.n_len (by decide +kernel) (pa_cons (pv 5) pa_nil)))) (pss_one (ps_set (i := 3) nd rfl (Or.inl rfl) (pe_tup (pa_cons pe_str (pa_cons (pe_ix (DL.ix_K (K := K) rfl) (pv 3) pe_int (fun _ _ => rfl)) (pa_cons (pv 6) (pa_cons (pv 3) (pa_cons (pv 5) pa_nil)))))))))))) (pss_one (ps_ret (pv 3))))), ?_⟩
  intro dvs o R X h
  have st : ∀ z, dvs = z → startD N__law_reach.length dvs = startD 7 z := fun z e => by rw [e]; rfl
  obtain ⟨τ, ω, t, ps, dep, rfl, rfl, D, hd0, hd1, hl, q⟩ := h
  rw [st _ rfl]; clear st; simp only [startD, toSl, List.map_cons, List.map_nil, List.length_cons, List.length_nil, List.cons_append, List.nil_append, List.append_nil, Nat.reduceAdd, Nat.reduceSub, List.reduceReplicate, Nat.zero_add, List.replicate_zero, Nat.sub_self]
  have hs : sizeLine = 16777216 := sizeLine_eq
  obtain ⟨d, rfl⟩ : ∃ d, dep = d + 1 := ⟨dep - 1, by omega⟩
  have hN : nB (d + 1) = 3 * nB d + 5 := rfl
  have hNp := nB_pos d
  have l0 := D.len
  repeat array_get_dec
  refine ⟨τ, ω, t, ps, 0, 6, rfl, rfl, D, by omega, by omega, by show t.length + 32 * 1 ≤ 80000; omega, fun a zs t1 hp D1 T1 => ?_⟩
  have hp : Pri (.lv 6) 0 t.length a zs := hp
  repeat array_get_dec
  refine xs_forR1 ?_
  repeat array_get_dec
  refine ⟨τ, 2, rfl, rfl, by decide, by decide, fun m m0 m1 => ?_⟩
  repeat array_get_dec
  refine ⟨by omega, by omega, fun k ρ' o' => Hold (∃ (a : Tr) (zs : List Pc) (t' : Str) (x4 x5 x6 : Sl), o' = toOb K τ ω t' ∧ Doc t' (ps ++ zs) ∧ RchOk a zs t.length (d + 1) k ∧
    ρ' = [.raw (.ref τ), .raw (.ref ω), .val (nI (d + 1)), .val a.toD, x4, x5, x6]), hold ⟨a, zs, t1, _, _, _, rfl, D1, ⟨pri_mono hp (by omega), fun h => by omega, T1.b, T1.n, by have := T1.h; omega, T1.f, by have := T1.s; omega⟩, rfl⟩, ?_, ?_⟩
  · rintro k _ _ hk ⟨a, zs, t', x4, x5, x6, rfl, D', A, rfl⟩
    have hk2 : k < 2 := by omega
    have l3 := D'.len
    rw [flen_app, ← l0] at l3
    have hb := A.b
    have hn := A.n
    refine xg_nd ?_
    repeat array_get_dec
    refine ⟨τ, ω, t', ".", _, rfl, rfl, D', by decide +kernel, by omega, by decide +kernel, fun g1 hg1 D2 => ?_⟩
    repeat array_get_dec
    refine ⟨τ, rfl, rfl, fun z z1 z2 z3 => ?_⟩
    have l4 := D2.len
    rw [flen_app, flen_app, ← l0] at l4
    have hc1 : ("." : Str).length = 1 := by decide +kernel
    simp only [flen_cons, flen_nil] at l4
    repeat array_get_dec
    refine ⟨τ, ω, _, z, _, rfl, rfl, D2, z2, by omega, by omega, fun g2 hg2 D3 => ?_⟩
    obtain ⟨wa, ra, ha⟩ := a.toD_eq
    rw [ha]
    repeat array_get_dec
    refine xc_lenS (by omega) ?_
    repeat array_get_dec
    refine xr_ixT (atD_of (j := 1) rfl rfl) ?_
    repeat array_get_dec
    have e7 : (t' ++ g1 ++ ".").length + g2.length + z.length = t.length + flen (zs ++ [⟨g1, "."⟩, ⟨g2, z⟩]) := by rw [l4, flen_app, l0]; simp only [flen_cons, flen_nil]; omega
    refine hold ⟨_, _, _, .val (.int (k : Int)), .val (.str z), .val (nI ((t' ++ g1 ++ ".").length + g2.length + z.length)), rfl, by simpa only [List.append_assoc, List.cons_append, List.nil_append] using D3, rch_step A z1 z3 hg1 hg2, ?_⟩
    rw [← e7]
    simp only [List.set_cons_succ, List.set_cons_zero, Tr.toD, ha, Int.zero_add]
    rfl
  · rintro _ _ ⟨a, zs, t', x4, x5, x6, rfl, D', A, rfl⟩
    repeat array_get_dec
    exact q _ _ _ (A.l (by omega)) D' (rch_end A (by omega) (by omega))
theorem ok__law_prefix (T : Txt K mg) (n : Nat) (G__law_token_out : FnOk P w K mg base CX0 3 T.a__law_token_out T.fd__law_token_out ["_law_tape_here", "_law_out", "_law_string"] (spD K (S__law_token_out K))) (G__law_tree : FnOk P w K mg base CX0 (2 * n + 6) T.a__law_tree T.fd__law_tree ["_law_tape_here", "_law_out", "_law_depth", "_law_level"] (spD K (S__law_tree n K))) : FnOk P w K mg base CX0 (2 * n + 7) T.a__law_prefix T.fd__law_prefix ["_law_tape_here", "_law_out", "_law_depth", "_law_word", "_law_sign", "_law_level"] (spD K (S__law_prefix (n + 1) K)) := by
  refine fnD T.F__law_prefix sc__law_prefix ?len fun cdv A outer s H E hr => ?body
  case len => intro dvs o R X h; first | (obtain ⟨rfl, _⟩ := h; rfl) | (obtain ⟨_, rfl, _⟩ := h; rfl) | (obtain ⟨_, _, rfl, _⟩ := h; rfl) | (obtain ⟨_, _, _, rfl, _⟩ := h; rfl) | (obtain ⟨_, _, _, _, rfl, _⟩ := h; rfl) | (obtain ⟨_, _, _, _, _, rfl, _⟩ := h; rfl) | (obtain ⟨_, _, _, _, _, _, rfl, _⟩ := h; rfl) | (obtain ⟨_, _, _, _, _, _, _, rfl, _⟩ := h; rfl) | (obtain ⟨_, _, _, _, _, _, _, _, rfl, _⟩ := h; rfl) | (obtain ⟨_, _, _, _, _, _, _, _, _, rfl, _⟩ := h; rfl) | (obtain ⟨_, _, _, _, _, _, _, _, _, _, rfl, _⟩ := h; rfl) | (obtain ⟨_, _, _, _, _, _, _, _, _, _, _, rfl, _⟩ := h; rfl) | (obtain ⟨_, _, _, _, _, _, _, _, _, _, _, _, rfl, _⟩ := h; rfl)
  have nd := sc__law_prefix.nd
  have hu := hu_of hr
  refine ⟨_, (pss_cons (ps_set (i := 6) nd rfl (Or.inl rfl) (pe_call G__law_token_out (hr.mono (by first | decide | omega)) (by rfl) T.g__law_token_out T.F__law_token_out.kp T.b__law_token_out .nil pass0 (pa_cons (pv 0) (pa_cons (pv 1) (pa_cons (pv 4) pa_nil))))) (pss_cons (ps_set (i := 7) nd rfl (Or.inl rfl) (pe_call G__law_tree (hr.mono (by first | decide | omega)) (by rfl) T.g__law_tree T.F__law_tree.kp T.b__law_tree .nil pass0 (pa_cons (pv 0) (pa_cons (pv 1) (pa_cons (pe_op op_sub (pv 2) pe_int) (pa_cons (pv 5) pa_nil)))))) (pss_one (ps_ret (pe_tup (pa_cons (pv 3) (pa_cons (pv 6) (pa_cons (pe_ix (DL.ix_K (K := K) rfl) (pv 7) pe_int (fun _ _ => rfl)) (pa_cons (pv 7) pa_nil))))))))), ?_⟩
  intro dvs o R X h
  have st : ∀ z, dvs = z → startD N__law_prefix.length dvs = startD 8 z := fun z e => by rw [e]; rfl
  obtain ⟨τ, ω, t, ps, dep, word, sign, lvl, L, rfl, rfl, D, hP, hd0, hd1, hl, q⟩ := h
  rw [st _ rfl]; clear st; simp only [startD, toSl, List.map_cons, List.map_nil, List.length_cons, List.length_nil, List.cons_append, List.nil_append, List.append_nil, Nat.reduceAdd, Nat.reduceSub, List.reduceReplicate, Nat.zero_add, List.replicate_zero, Nat.sub_self]
  have hs : sizeLine = 16777216 := sizeLine_eq
  obtain ⟨d, rfl⟩ : ∃ d, dep = d + 1 := ⟨dep - 1, by omega⟩
  have hN : nB (d + 1) = 3 * nB d + 5 := rfl
  have hNp := nB_pos d
  have l0 := D.len
  have e5 : ((d + 1 : Nat) : Int) - 1 = (d : Int) := by omega
  rcases hP with ⟨rfl, rfl, rfl, hL⟩ | ⟨rfl, rfl, rfl, hL⟩
  · have c1 : ("-" : Str).length = 1 := by decide +kernel
    repeat array_get_dec
    refine ⟨τ, ω, t, "-", ps, rfl, rfl, D, by decide +kernel, by omega, by decide +kernel, fun g hg D1 => ?_⟩
    have l1 := D1.len
    rw [flen_app, ← l0] at l1
    simp only [flen_cons, flen_nil] at l1
    repeat array_get_dec
    rw [e5]
    refine ⟨τ, ω, _, _, d, 5, rfl, rfl, D1, by omega, by omega, by omega, fun a zs t1 hp D2 T2 => ?_⟩
    have hp : Pri (.lv 5) d (t ++ g ++ "-").length a zs := hp
    have e6 : (t ++ g ++ "-").length = t.length + flen [⟨g, "-"⟩] := by rw [l1]; simp only [flen_cons, flen_nil]
    rw [e6] at hp
    have q := q (.mns (t.length + g.length) a.e a) _ t1 (.mns hL hp) (by simpa only [List.append_assoc, List.cons_append, List.nil_append] using D2) (tree_pref T2 hg (by decide +kernel) rfl rfl rfl)
    unfold Tr.toD at q
    obtain ⟨wa, ra, ha⟩ := a.toD_eq
    rw [ha] at q ⊢
    repeat array_get_dec
    refine xr_ixT (atD_of (j := 2) rfl rfl) ?_
    repeat array_get_dec
    exact q
  · have c1 : ("not" : Str).length = 3 := by decide +kernel
    repeat array_get_dec
    refine ⟨τ, ω, t, "not", ps, rfl, rfl, D, by decide +kernel, by omega, by decide +kernel, fun g hg D1 => ?_⟩
    have l1 := D1.len
    rw [flen_app, ← l0] at l1
    simp only [flen_cons, flen_nil] at l1
    repeat array_get_dec
    rw [e5]
    refine ⟨τ, ω, _, _, d, 2, rfl, rfl, D1, by omega, by omega, by omega, fun a zs t1 hp D2 T2 => ?_⟩
    have hp : Pri (.lv 2) d (t ++ g ++ "not").length a zs := hp
    have e6 : (t ++ g ++ "not").length = t.length + flen [⟨g, "not"⟩] := by rw [l1]; simp only [flen_cons, flen_nil]
    rw [e6] at hp
    have q := q (.nt (t.length + g.length) a.e a) _ t1 (.nt hL hp) (by simpa only [List.append_assoc, List.cons_append, List.nil_append] using D2) (tree_pref T2 hg (by decide +kernel) rfl rfl rfl)
    unfold Tr.toD at q
    obtain ⟨wa, ra, ha⟩ := a.toD_eq
    rw [ha] at q ⊢
    repeat array_get_dec
    refine xr_ixT (atD_of (j := 2) rfl rfl) ?_
    repeat array_get_dec
    exact q
theorem ok__law_wide (T : Txt K mg) (n : Nat) (G__law_some_name : FnOk P w K mg base CX0 2 T.a__law_some_name T.fd__law_some_name ["_law_tape_here"] (spD K (S__law_some_name K))) (G__law_token_out : FnOk P w K mg base CX0 3 T.a__law_token_out T.fd__law_token_out ["_law_tape_here", "_law_out", "_law_string"] (spD K (S__law_token_out K))) (G__law_tree : FnOk P w K mg base CX0 (2 * n + 6) T.a__law_tree T.fd__law_tree ["_law_tape_here", "_law_out", "_law_depth", "_law_level"] (spD K (S__law_tree n K))) : FnOk P w K mg base CX0 (2 * n + 7) T.a__law_wide T.fd__law_wide ["_law_tape_here", "_law_out", "_law_depth", "_law_choice"] (spD K (S__law_wide (n + 1) K)) := by
  refine fnD T.F__law_wide sc__law_wide ?len fun cdv A outer s H E hr => ?body
  case len => intro dvs o R X h; first | (obtain ⟨rfl, _⟩ := h; rfl) | (obtain ⟨_, rfl, _⟩ := h; rfl) | (obtain ⟨_, _, rfl, _⟩ := h; rfl) | (obtain ⟨_, _, _, rfl, _⟩ := h; rfl) | (obtain ⟨_, _, _, _, rfl, _⟩ := h; rfl) | (obtain ⟨_, _, _, _, _, rfl, _⟩ := h; rfl) | (obtain ⟨_, _, _, _, _, _, rfl, _⟩ := h; rfl) | (obtain ⟨_, _, _, _, _, _, _, rfl, _⟩ := h; rfl) | (obtain ⟨_, _, _, _, _, _, _, _, rfl, _⟩ := h; rfl) | (obtain ⟨_, _, _, _, _, _, _, _, _, rfl, _⟩ := h; rfl) | (obtain ⟨_, _, _, _, _, _, _, _, _, _, rfl, _⟩ := h; rfl) | (obtain ⟨_, _, _, _, _, _, _, _, _, _, _, rfl, _⟩ := h; rfl) | (obtain ⟨_, _, _, _, _, _, _, _, _, _, _, _, rfl, _⟩ := h; rfl)
  have nd := sc__law_wide.nd
  have hu := hu_of hr
  refine ⟨_, (pss_cons (ps_if (pt_cmpR (DL.op_eqK (K := K) rfl hr.units) (pv 3) pe_int (nomark _)) (pss_cons (ps_set (i := 4) nd rfl (Or.inl rfl) (pe_call G__law_token_out (hr.mono (by first | decide | omega)) (by rfl) T.g__law_token_out T.F__law_token_out.kp T.b__law_token_out .nil pass0 (pa_cons (pv 0) (pa_cons (pv 1) (pa_cons pe_str pa_nil))))) (pss_cons (ps_set (i := 5) nd rfl (Or.inl rfl) (pe_call G__law_tree (hr.mono (by first | decide | omega)) (by rfl) T.g__law_tree T.F__law_tree.kp T.b__law_tree .nil pass0 (pa_cons (pv 0) (pa_cons (pv 1) (pa_cons (pe_op op_sub (pv 2) pe_int) (pa_cons pe_int pa_nil)))))) (pss_cons (ps_expr (pe_call G__law_token_out (hr.mono (by first | decide | omega)) (by rfl) T.g__law_token_out T.F__law_token_out.kp T.b__law_token_out .nil pass0 (pa_cons (pv 0) (pa_cons (pv 1) (pa_cons pe_str pa_nil))))) (pss_cons (ps_set (i := 6) nd rfl (Or.inl rfl) (pe_call G__law_tree (hr.mono (by first | decide | omega)) (by rfl) T.g__law_tree T.F__law_tree.kp T.b__law_tree .nil pass0 (pa_cons (pv 0) (pa_cons (pv 1) (pa_cons (pe_op op_sub (pv 2) pe_int) (pa_cons pe_int pa_nil)))))) (pss_cons (ps_expr (pe_call G__law_token_out (hr.mono (by first | decide | omega)) (by rfl) T.g__law_token_out T.F__law_token_out.kp T.b__law_token_out .nil pass0 (pa_cons (pv 0) (pa_cons (pv 1) (pa_cons pe_str pa_nil))))) (pss_cons (ps_set (i := 7) nd rfl (Or.inl rfl) (pe_call G__law_tree (hr.mono (by first | decide | omega)) (by rfl) T.g__law_tree T.F__law_tree.kp T.b__law_tree .nil pass0 (pa_cons (pv 0) (pa_cons (pv 1) (pa_cons (pe_op op_sub (pv 2) pe_int) (pa_cons pe_int pa_nil)))))) (pss_one (ps_ret (pe_tup (pa_cons pe_str (pa_cons (pv 4) (pa_cons (pe_ix (DL.ix_K (K := K) rfl) (pv 7) pe_int (fun _ _ => rfl)) (pa_cons (pv 5) (pa_cons (pv 6) (pa_cons (pv 7) pa_nil))))))))))))))) pss_nil) (pss_cons (ps_set (i := 8) nd rfl (Or.inl rfl) (pe_ix (DL.ix_K (K := K) rfl) (pe_lst (pa_cons pe_str (pa_cons pe_str pa_nil))) (pe_op op_sub (pv 3) pe_int) (fun _ _ => rfl))) (pss_cons (ps_set (i := 4) nd rfl (Or.inl rfl) (pe_call G__law_token_out (hr.mono (by first | decide | omega)) (by rfl) T.g__law_token_out T.F__law_token_out.kp T.b__law_token_out .nil pass0 (pa_cons (pv 0) (pa_cons (pv 1) (pa_cons (pv 8) pa_nil))))) (pss_cons (ps_set (i := 9) nd rfl (Or.inl rfl) (pe_call G__law_some_name (hr.mono (by first | decide | omega)) (by rfl) T.g__law_some_name T.F__law_some_name.kp T.b__law_some_name .nil pass0 (pa_cons (pv 0) pa_nil))) (pss_cons (ps_set (i := 10) nd rfl (Or.inl rfl) (pe_call G__law_token_out (hr.mono (by first | decide | omega)) (by rfl) T.g__law_token_out T.F__law_token_out.kp T.b__law_token_out .nil pass0 (pa_cons (pv 0) (pa_cons (pv 1) (pa_cons (pv 9) pa_nil))))) (pss_cons (ps_expr (pe_call G__law_token_out (hr.mono (by first | decide | omega)) (by rfl) T.g__law_token_out T.F__law_token_out.kp T.b__law_token_out .nil pass0 (pa_cons (pv 0) (pa_cons (pv 1) (pa_cons pe_str pa_nil))))) (pss_cons (ps_set (i := 11) nd rfl (Or.inl rfl) (pe_call G__law_tree (hr.mono (by first | decide | omega)) (by rfl) T.g__law_tree T.F__law_tree.kp T.b__law_tree .nil pass0 (pa_cons (pv 0) (pa_cons (pv 1) (pa_cons (pe_op op_sub (pv 2) pe_int) (pa_cons pe_int pa_nil)))))) (pss_cons (ps_if (pt_cmpR (DL.op_eqK (K := K) rfl hr.units) (pv 8) pe_str (nomark _)) (pss_cons (ps_expr (pe_call G__law_token_out (hr.mono (by first | decide | omega)) (by rfl) T.g__law_token_out T.F__law_token_out.kp T.b__law_token_out .nil pass0 (pa_cons (pv 0) (pa_cons (pv 1) (pa_cons pe_str pa_nil))))) (pss_cons (ps_set (i := 12) nd rfl (Or.inl rfl) (pe_call G__law_tree (hr.mono (by first | decide | omega)) (by rfl) T.g__law_tree T.F__law_tree.kp T.b__law_tree .nil pass0 (pa_cons (pv 0) (pa_cons (pv 1) (pa_cons (pe_op op_sub (pv 2) pe_int) (pa_cons pe_int pa_nil)))))) (pss_cons (ps_expr (pe_call G__law_token_out (hr.mono (by first | decide | omega)) (by rfl) T.g__law_token_out T.F__law_token_out.kp T.b__law_token_out .nil pass0 (pa_cons (pv 0) (pa_cons (pv 1) (pa_cons pe_str pa_nil))))) (pss_cons (ps_set (i := 13) nd rfl (Or.inl rfl) (pe_call G__law_tree (hr.mono (by first | decide | omega)) (by rfl) T.g__law_tree T.F__law_tree.kp T.b__law_tree .nil pass0 (pa_cons (pv 0) (pa_cons (pv 1) (pa_cons (pe_op op_sub (pv 2) pe_int) (pa_cons pe_int pa_nil)))))) (pss_one (ps_ret (pe_tup (pa_cons (pv 8) (pa_cons (pv 4) (pa_cons (pe_ix (DL.ix_K (K := K) rfl) (pv 13) pe_int (fun _ _ => rfl)) (pa_cons (pv 9) (pa_cons (pv 10) (pa_cons (pv 11) (pa_cons (pv 12) (pa_cons (pv 13) pa_nil))))))))))))))) pss_nil) (pss_cons (ps_expr (pe_call G__law_token_out (hr.mono (by first | decide | omega)) (by rfl) T.g__law_token_out T.F__law_token_out.kp T.b__law_token_out .nil pass0 (pa_cons (pv 0) (pa_cons (pv 1) (pa_cons pe_str pa_nil))))) (pss_cons (ps_set (i := 14) nd rfl (Or.inl rfl) (pe_call G__law_tree (hr.mono (by first | decide | omega)) (by rfl) T.g__law_tree T.F__law_tree.kp T.b__law_tree .nil pass0 (pa_cons (pv 0) (pa_cons (pv 1) (pa_cons (pe_op op_sub (pv 2) pe_int) (pa_cons pe_int pa_nil)))))) (pss_one (ps_ret (pe_tup (pa_cons (pv 8) (pa_cons (pv 4) (pa_cons (pe_ix (DL.ix_K (K := K) rfl) (pv 14) pe_int (fun _ _ => rfl)) (pa_cons (pv 9) (pa_cons (pv 10) (pa_cons (pv 11) (pa_cons (pv 14) pa_nil)))))))))))))))))))), ?_⟩
  intro dvs o R X h
  have st : ∀ z, dvs = z → startD N__law_wide.length dvs = startD 15 z := fun z e => by rw [e]; rfl
  obtain ⟨τ, ω, t, ps, dep, c, rfl, rfl, D, hc0, hc1, hd0, hd1, hl, q⟩ := h
  rw [st _ rfl]; clear st; simp only [startD, toSl, List.map_cons, List.map_nil, List.length_cons, List.length_nil, List.cons_append, List.nil_append, List.append_nil, Nat.reduceAdd, Nat.reduceSub, List.reduceReplicate, Nat.zero_add, List.replicate_zero, Nat.sub_self]
  have hs : sizeLine = 16777216 := sizeLine_eq
  obtain ⟨d, rfl⟩ : ∃ d, dep = d + 1 := ⟨dep - 1, by omega⟩
  have hN : nB (d + 1) = 3 * nB d + 5 := rfl
  have hNp := nB_pos d
  have l0 := D.len
  have e5 : ((d + 1 : Nat) : Int) - 1 = (d : Int) := by omega
  repeat array_get_dec
  refine bs_d (fun c11 => ?_) fun c11 => ?_
  · have u1 : ("if" : Str).length = 2 := by decide +kernel
    have u2 : ("then" : Str).length = 4 := by decide +kernel
    have u3 : ("else" : Str).length = 4 := by decide +kernel
    repeat array_get_dec
    refine ⟨τ, ω, t, "if", ps, rfl, rfl, D, by decide +kernel, by omega, by decide +kernel, fun g1 hg1 D1 => ?_⟩
    have l1 := D1.len
    rw [flen_app, ← l0] at l1
    simp only [flen_cons, flen_nil] at l1
    repeat array_get_dec
    rw [e5]
    refine ⟨τ, ω, _, _, d, 0, rfl, rfl, D1, by omega, by omega, by omega, fun a zs t2 hp1 D2 T1 => ?_⟩
    have hp1 : Pri .val d (t ++ g1 ++ "if").length a zs := hp1
    have l2 := D2.len
    rw [flen_app, ← D1.len, l1] at l2
    have b1 := T1.b
    have n1 := T1.n
    repeat array_get_dec
    refine ⟨τ, ω, _, "then", _, rfl, rfl, D2, by decide +kernel, by omega, by decide +kernel, fun g2 hg2 D3 => ?_⟩
    have l3 := D3.len
    rw [flen_app, ← D2.len, l2] at l3
    simp only [flen_cons, flen_nil] at l3
    repeat array_get_dec
    rw [e5]
    refine ⟨τ, ω, _, _, d, 0, rfl, rfl, D3, by omega, by omega, by omega, fun b ws t4 hp2 D4 T2 => ?_⟩
    have hp2 : Pri .val d (t2 ++ g2 ++ "then").length b ws := hp2
    have l4 := D4.len
    rw [flen_app, ← D3.len, l3] at l4
    have b2 := T2.b
    have n2 := T2.n
    repeat array_get_dec
    refine ⟨τ, ω, _, "else", _, rfl, rfl, D4, by decide +kernel, by omega, by decide +kernel, fun g3 hg3 D5 => ?_⟩
    have l5 := D5.len
    rw [flen_app, ← D4.len, l4] at l5
    simp only [flen_cons, flen_nil] at l5
    repeat array_get_dec
    rw [e5]
    refine ⟨τ, ω, _, _, d, 0, rfl, rfl, D5, by omega, by omega, by omega, fun x us t6 hp3 D6 T3 => ?_⟩
    have hp3 : Pri .val d (t4 ++ g3 ++ "else").length x us := hp3
    have h1 : Pri .val d (t.length + flen [⟨g1, "if"⟩]) a zs := by
      rw [l1] at hp1; simp only [flen_cons, flen_nil]; exact hp1
    have h2 : Pri .val d (t.length + flen (⟨g1, "if"⟩ :: (zs ++ [⟨g2, "then"⟩]))) b ws := by
      have e : (t2 ++ g2 ++ "then").length = t.length + flen (⟨g1, "if"⟩ :: (zs ++ [⟨g2, "then"⟩])) := by rw [l3]; simp only [flen_app, flen_cons, flen_nil]; omega
      rw [← e]; exact hp2
    have h3 : Pri .val d (t.length + flen (⟨g1, "if"⟩ :: (zs ++ ⟨g2, "then"⟩ :: (ws ++ [⟨g3, "else"⟩])))) x us := by
      have e : (t4 ++ g3 ++ "else").length = t.length + flen (⟨g1, "if"⟩ :: (zs ++ ⟨g2, "then"⟩ :: (ws ++ [⟨g3, "else"⟩]))) := by rw [l5]; simp only [flen_app, flen_cons, flen_nil]; omega
      rw [← e]; exact hp3
    have q := q (.ift (t.length + g1.length) x.e a b x) _ t6 (.ift h1 h2 h3) (by simpa only [List.append_assoc, List.cons_append, List.nil_append] using D6) (tree_if T1 T2 T3 hg1 hg2 hg3)
    unfold Tr.toD at q
    obtain ⟨wa, ra, ha⟩ := x.toD_eq
    rw [ha] at q ⊢
    repeat array_get_dec
    refine xr_ixT (atD_of (j := 2) rfl rfl) ?_
    repeat array_get_dec
    exact q
  · have hw : ∃ w : Str, ([PyData.str "let", .str "loop"])[c - 12]? = some (.str w) ∧ wordB (TL.tl w) = true ∧ w.length ≤ 4 ∧ ((c = 12 ∧ w = "let") ∨ (c = 13 ∧ w = "loop")) := by
      have h2 : c = 12 ∨ c = 13 := by
        have c11 : ¬ (c : Int) = 11 := c11
        omega
      rcases h2 with h2 | h2 <;> rw [h2]
      · exact ⟨_, rfl, by decide +kernel, by decide +kernel, .inl ⟨rfl, rfl⟩⟩
      · exact ⟨_, rfl, by decide +kernel, by decide +kernel, .inr ⟨rfl, rfl⟩⟩
    obtain ⟨w, hw1, hw2, hw3, hw4⟩ := hw
    have u4 : ("=" : Str).length = 1 := by decide +kernel
    repeat array_get_dec
    refine xr_ixL isl_n (atD_of (j := c - 12) (by omega) hw1) ?_
    repeat array_get_dec
    refine ⟨τ, ω, t, w, ps, rfl, rfl, D, hw2, by omega, by omega, fun g1 hg1 D1 => ?_⟩
    have l1 := D1.len
    rw [flen_app, ← l0] at l1
    simp only [flen_cons, flen_nil] at l1
    repeat array_get_dec
    refine ⟨τ, rfl, rfl, fun z z1 z2 z3 => ?_⟩
    repeat array_get_dec
    refine ⟨τ, ω, _, z, _, rfl, rfl, D1, z2, by omega, by omega, fun g2 hg2 D2 => ?_⟩
    have l2 := D2.len
    rw [flen_app, ← D1.len, l1] at l2
    simp only [flen_cons, flen_nil] at l2
    repeat array_get_dec
    refine ⟨τ, ω, _, "=", _, rfl, rfl, D2, by decide +kernel, by omega, by decide +kernel, fun g3 hg3 D3 => ?_⟩
    have l3 := D3.len
    rw [flen_app, ← D2.len, l2] at l3
    simp only [flen_cons, flen_nil] at l3
    repeat array_get_dec
    rw [e5]
    refine ⟨τ, ω, _, _, d, 0, rfl, rfl, D3, by omega, by omega, by omega, fun a zs t4 hp1 D4 T1 => ?_⟩
    have hp1 : Pri .val d (t ++ g1 ++ w ++ g2 ++ z ++ g3 ++ "=").length a zs := hp1
    have l4 := D4.len
    rw [flen_app, ← D3.len, l3] at l4
    have b1 := T1.b
    have n1 := T1.n
    repeat array_get_dec
    rcases hw4 with ⟨hc, rfl⟩ | ⟨hc, rfl⟩
    · have u1 : ("let" : Str).length = 3 := by decide +kernel
      have u2 : ("in" : Str).length = 2 := by decide +kernel
      refine bs_d (fun h => absurd h (by decide +kernel)) fun _ => ?_
      repeat array_get_dec
      refine ⟨τ, ω, _, "in", _, rfl, rfl, D4, by decide +kernel, by omega, by decide +kernel, fun g4 hg4 D5 => ?_⟩
      have l5 := D5.len
      rw [flen_app, ← D4.len, l4] at l5
      simp only [flen_cons, flen_nil] at l5
      repeat array_get_dec
      rw [e5]
      refine ⟨τ, ω, _, _, d, 0, rfl, rfl, D5, by omega, by omega, by omega, fun x us t6 hp3 D6 T3 => ?_⟩
      have hp3 : Pri .val d (t4 ++ g4 ++ "in").length x us := hp3
      have h1 : Pri .val d (t.length + flen [⟨g1, "let"⟩, ⟨g2, z⟩, ⟨g3, "="⟩]) a zs := by
        have e : (t ++ g1 ++ "let" ++ g2 ++ z ++ g3 ++ "=").length = t.length + flen [⟨g1, "let"⟩, ⟨g2, z⟩, ⟨g3, "="⟩] := by rw [l3]; simp only [flen_app, flen_cons, flen_nil]; omega
        rw [← e]; exact hp1
      have h2 : Pri .val d (t.length + flen (⟨g1, "let"⟩ :: ⟨g2, z⟩ :: ⟨g3, "="⟩ :: (zs ++ [⟨g4, "in"⟩]))) x us := by
        have e : (t4 ++ g4 ++ "in").length = t.length + flen (⟨g1, "let"⟩ :: ⟨g2, z⟩ :: ⟨g3, "="⟩ :: (zs ++ [⟨g4, "in"⟩])) := by rw [l5]; simp only [flen_app, flen_cons, flen_nil]; omega
        rw [← e]; exact hp3
      have q := q (.lt (t.length + g1.length) x.e z (t.length + flen [⟨g1, "let"⟩] + g2.length) a x) _ t6 (.lt z1 h1 h2) (by simpa only [List.append_assoc, List.cons_append, List.nil_append] using D6) (tree_let T1 T3 hg1 hg2 hg3 hg4 z3)
      have e8 : (t ++ g1 ++ "let").length + g2.length = t.length + flen [⟨g1, "let"⟩] + g2.length := by rw [l1]; simp only [flen_cons, flen_nil]
      rw [← e8] at q
      unfold Tr.toD at q
      obtain ⟨wa, ra, ha⟩ := x.toD_eq
      rw [ha] at q ⊢
      repeat array_get_dec
      refine xr_ixT (atD_of (j := 2) rfl rfl) ?_
      repeat array_get_dec
      exact q
    · have u1 : ("loop" : Str).length = 4 := by decide +kernel
      have u2 : ("times" : Str).length = 5 := by decide +kernel
      have u3 : ("do" : Str).length = 2 := by decide +kernel
      refine bs_d (fun _ => ?_) fun h => absurd rfl h
      repeat array_get_dec
      refine ⟨τ, ω, _, "times", _, rfl, rfl, D4, by decide +kernel, by omega, by decide +kernel, fun g4 hg4 D5 => ?_⟩
      have l5 := D5.len
      rw [flen_app, ← D4.len, l4] at l5
      simp only [flen_cons, flen_nil] at l5
      repeat array_get_dec
      rw [e5]
      refine ⟨τ, ω, _, _, d, 0, rfl, rfl, D5, by omega, by omega, by omega, fun b ws t6 hp2 D6 T2 => ?_⟩
      have hp2 : Pri .val d (t4 ++ g4 ++ "times").length b ws := hp2
      have l6 := D6.len
      rw [flen_app, ← D5.len, l5] at l6
      have b2 := T2.b
      have n2 := T2.n
      repeat array_get_dec
      refine ⟨τ, ω, _, "do", _, rfl, rfl, D6, by decide +kernel, by omega, by decide +kernel, fun g5 hg5 D7 => ?_⟩
      have l7 := D7.len
      rw [flen_app, ← D6.len, l6] at l7
      simp only [flen_cons, flen_nil] at l7
      repeat array_get_dec
      rw [e5]
      refine ⟨τ, ω, _, _, d, 0, rfl, rfl, D7, by omega, by omega, by omega, fun x us t8 hp3 D8 T3 => ?_⟩
      have hp3 : Pri .val d (t6 ++ g5 ++ "do").length x us := hp3
      have h1 : Pri .val d (t.length + flen [⟨g1, "loop"⟩, ⟨g2, z⟩, ⟨g3, "="⟩]) a zs := by
        have e : (t ++ g1 ++ "loop" ++ g2 ++ z ++ g3 ++ "=").length = t.length + flen [⟨g1, "loop"⟩, ⟨g2, z⟩, ⟨g3, "="⟩] := by rw [l3]; simp only [flen_app, flen_cons, flen_nil]; omega
        rw [← e]; exact hp1
      have h2 : Pri .val d (t.length + flen (⟨g1, "loop"⟩ :: ⟨g2, z⟩ :: ⟨g3, "="⟩ :: (zs ++ [⟨g4, "times"⟩]))) b ws := by
        have e : (t4 ++ g4 ++ "times").length = t.length + flen (⟨g1, "loop"⟩ :: ⟨g2, z⟩ :: ⟨g3, "="⟩ :: (zs ++ [⟨g4, "times"⟩])) := by rw [l5]; simp only [flen_app, flen_cons, flen_nil]; omega
        rw [← e]; exact hp2
      have h3 : Pri .val d (t.length + flen (⟨g1, "loop"⟩ :: ⟨g2, z⟩ :: ⟨g3, "="⟩ :: (zs ++ ⟨g4, "times"⟩ :: (ws ++ [⟨g5, "do"⟩])))) x us := by
        have e : (t6 ++ g5 ++ "do").length = t.length + flen (⟨g1, "loop"⟩ :: ⟨g2, z⟩ :: ⟨g3, "="⟩ :: (zs ++ ⟨g4, "times"⟩ :: (ws ++ [⟨g5, "do"⟩]))) := by rw [l7]; simp only [flen_app, flen_cons, flen_nil]; omega
        rw [← e]; exact hp3
      have q := q (.lp (t.length + g1.length) x.e z (t.length + flen [⟨g1, "loop"⟩] + g2.length) a b x) _ t8 (.lp z1 h1 h2 h3) (by simpa only [List.append_assoc, List.cons_append, List.nil_append] using D8) (tree_loop T1 T2 T3 hg1 hg2 hg3 hg4 hg5 z3)
      have e8 : (t ++ g1 ++ "loop").length + g2.length = t.length + flen [⟨g1, "loop"⟩] + g2.length := by rw [l1]; simp only [flen_cons, flen_nil]
      rw [← e8] at q
      unfold Tr.toD at q
      obtain ⟨wa, ra, ha⟩ := x.toD_eq
      rw [ha] at q ⊢
      repeat array_get_dec
      refine xr_ixT (atD_of (j := 2) rfl rfl) ?_
      repeat array_get_dec
      exact q
theorem ok__law_binary (T : Txt K mg) (n : Nat) (G__law_take : FnOk P w K mg base CX0 1 T.a__law_take T.fd__law_take ["_law_tape_here", "_law_many"] (spD K (S__law_take K))) (G__law_token_out : FnOk P w K mg base CX0 3 T.a__law_token_out T.fd__law_token_out ["_law_tape_here", "_law_out", "_law_string"] (spD K (S__law_token_out K))) (G__law_tree : FnOk P w K mg base CX0 (2 * n + 6) T.a__law_tree T.fd__law_tree ["_law_tape_here", "_law_out", "_law_depth", "_law_level"] (spD K (S__law_tree n K))) : FnOk P w K mg base CX0 (2 * n + 7) T.a__law_binary T.fd__law_binary ["_law_tape_here", "_law_out", "_law_depth", "_law_level"] (spD K (S__law_binary (n + 1) K)) := by
  refine fnD T.F__law_binary sc__law_binary ?len fun cdv A outer s H E hr => ?body
  case len => intro dvs o R X h; first | (obtain ⟨rfl, _⟩ := h; rfl) | (obtain ⟨_, rfl, _⟩ := h; rfl) | (obtain ⟨_, _, rfl, _⟩ := h; rfl) | (obtain ⟨_, _, _, rfl, _⟩ := h; rfl) | (obtain ⟨_, _, _, _, rfl, _⟩ := h; rfl) | (obtain ⟨_, _, _, _, _, rfl, _⟩ := h; rfl) | (obtain ⟨_, _, _, _, _, _, rfl, _⟩ := h; rfl) | (obtain ⟨_, _, _, _, _, _, _, rfl, _⟩ := h; rfl) | (obtain ⟨_, _, _, _, _, _, _, _, rfl, _⟩ := h; rfl) | (obtain ⟨_, _, _, _, _, _, _, _, _, rfl, _⟩ := h; rfl) | (obtain ⟨_, _, _, _, _, _, _, _, _, _, rfl, _⟩ := h; rfl) | (obtain ⟨_, _, _, _, _, _, _, _, _, _, _, rfl, _⟩ := h; rfl) | (obtain ⟨_, _, _, _, _, _, _, _, _, _, _, _, rfl, _⟩ := h; rfl)
  have nd := sc__law_binary.nd
  have hu := hu_of hr
  refine ⟨_, (pss_cons (ps_set (i := 4) nd rfl (Or.inl rfl) (pe_op (DL.op_addK (K := K) rfl) (pv 3) (pe_call G__law_take (hr.mono (by first | decide | omega)) (by rfl) T.g__law_take T.F__law_take.kp T.b__law_take .nil pass0 (pa_cons (pv 0) (pa_cons (pe_op op_sub pe_int (pv 3)) pa_nil))))) (pss_cons (ps_set (i := 5) nd rfl (Or.inl rfl) (pe_ix (DL.ix_K (K := K) rfl) (pe_lst (pa_cons (pe_lst (pa_cons pe_str pa_nil)) (pa_cons (pe_lst (pa_cons pe_str pa_nil)) (pa_cons (pe_lst (pa_cons pe_str (pa_cons pe_str pa_nil))) (pa_cons (pe_lst (pa_cons pe_str (pa_cons pe_str pa_nil))) (pa_cons (pe_lst (pa_cons pe_str (pa_cons pe_str pa_nil))) pa_nil)))))) (pv 4) (fun _ _ => rfl))) (pss_cons (ps_set (i := 6) nd rfl (Or.inl rfl) (pe_call G__law_tree (hr.mono (by first | decide | omega)) (by rfl) T.g__law_tree T.F__law_tree.kp T.b__law_tree .nil pass0 (pa_cons (pv 0) (pa_cons (pv 1) (pa_cons (pe_op op_sub (pv 2) pe_int) (pa_cons (pe_ix (DL.ix_K (K := K) rfl) (pe_lst (pa_cons pe_int (pa_cons pe_int (pa_cons pe_int (pa_cons pe_int (pa_cons pe_int pa_nil)))))) (pv 4) (fun _ _ => rfl)) pa_nil)))))) (pss_cons (ps_for PassesOwn.never rfl (pi_range1 (by rfl) T.n_range (pa_cons (pe_op (DL.op_addK (K := K) rfl) pe_int (pe_ifExp (pt_cmpR (DL.op_neK (K := K) rfl hr.units) (pv 4) pe_int (nomark _)) (pe_call G__law_take (hr.mono (by first | decide | omega)) (by rfl) T.g__law_take T.F__law_take.kp T.b__law_take .nil pass0 (pa_cons (pv 0) (pa_cons pe_int pa_nil))) pe_int)) pa_nil)) (pg_name (i := 7) nd rfl (Or.inl rfl)) (pss_cons (ps_set (i := 8) nd rfl (Or.inl rfl) (pe_ix (DL.ix_K (K := K) rfl) (pv 5) (pe_call G__law_take (hr.mono (by first | decide | omega)) (by rfl) T.g__law_take T.F__law_take.kp T.b__law_take .nil pass0 (pa_cons (pv 0) (pa_cons (pe_callB (DL.call_lenK (K := K) rfl) (by rfl) T.n_len (by decide +kernel) (pa_cons (pv 5) pa_nil)) pa_nil))) (fun _ _ => rfl))) (pss_cons (ps_expr (pe_call G__law_token_out (hr.mono (by first | decide | omega)) (by rfl) T.g__law_token_out T.F__law_token_out.kp T.b__law_token_out .nil pass0 (pa_cons (pv 0) (pa_cons (pv 1) (pa_cons (pv 8) pa_nil))))) (pss_cons (ps_set (i := 9) nd rfl (Or.inl rfl) (pe_call G__law_tree (hr.mono (by first | decide | omega)) (by rfl) T.g__law_tree T.F__law_tree.kp T.b__law_tree .nil pass0 (pa_cons (pv 0) (pa_cons (pv 1) (pa_cons (pe_op op_sub (pv 2) pe_int) (pa_cons (pe_ix (DL.ix_K (K := K) rfl) (pe_lst (pa_cons pe_int (pa_cons pe_int (pa_cons pe_int (pa_cons pe_int (pa_cons pe_int pa_nil)))))) (pv 4) (fun _ _ => rfl)) pa_nil)))))) (pss_one (ps_set (i := 6) nd rfl (Or.inl rfl) (pe_tup (pa_cons pe_str (pa_cons (pe_ix (DL.ix_K (K := K) rfl) (pv 6) pe_int (fun _ _ => rfl)) (pa_cons (pe_ix (DL.ix_K (K := K) rfl) (pv 9) pe_int (fun _ _ => rfl)) (pa_cons (pv 8) (pa_cons (pv 6) (pa_cons (pv 9) pa_nil))))))))))))) (pss_one (ps_ret (pv 6))))))), ?_⟩
  intro dvs o R X h
  have st : ∀ z, dvs = z → startD N__law_binary.length dvs = startD 10 z := fun z e => by rw [e]; rfl
  obtain ⟨τ, ω, t, ps, dep, lvl, rfl, rfl, D, hlv, hd0, hd1, hl, q⟩ := h
  rw [st _ rfl]; clear st; simp only [startD, toSl, List.map_cons, List.map_nil, List.length_cons, List.length_nil, List.cons_append, List.nil_append, List.append_nil, Nat.reduceAdd, Nat.reduceSub, List.reduceReplicate, Nat.zero_add, List.replicate_zero, Nat.sub_self]
  have hs : sizeLine = 16777216 := sizeLine_eq
  obtain ⟨d, rfl⟩ : ∃ d, dep = d + 1 := ⟨dep - 1, by omega⟩
  have hN : nB (d + 1) = 3 * nB d + 5 := rfl
  have hNp := nB_pos d
  have l0 := D.len
  have e5 : ((d + 1 : Nat) : Int) - 1 = (d : Int) := by omega
  repeat array_get_dec
  refine ⟨τ, 5 - (lvl : Int), rfl, rfl, by omega, by omega, fun k k0 k1 => ?_⟩
  obtain ⟨c, hc⟩ : ∃ c : Nat, (lvl : Int) + k = (c : Int) := ⟨lvl + k.toNat, by omega⟩
  have c1 : lvl ≤ c := by omega
  have c2 : c < 5 := by omega
  obtain ⟨xs, hxs, xl1, xl2, hxa⟩ := signs_at c c2
  refine ⟨kept_d, xr_addI ?_⟩
  rw [hc]
  repeat array_get_dec
  refine xr_ixL isl_n (atD_of (j := c) rfl hxs) ?_
  repeat array_get_dec
  rw [e5]
  repeat array_get_dec
  refine xr_ixL isl_n (atD_of (j := c) rfl (levs_at c c2)) ?_
  repeat array_get_dec
  refine ⟨τ, ω, t, ps, d, c + 1, rfl, rfl, D, by omega, by omega, by omega, fun a zs t1 hp D1 T1 => ?_⟩
  have hp : Pri (.lv (c + 1)) d t.length a zs := by
    have hp : Pri (if c + 1 = 0 then .val else .lv (c + 1)) d t.length a zs := hp
    rwa [if_neg (Nat.succ_ne_zero c)] at hp
  repeat array_get_dec
  simp only [List.set_cons_succ, List.set_cons_zero]
  refine xs_forR1 (XA.mono (R := fun ds ρ' o' => ∃ N : Int, ds = [.d (.int N)] ∧ 1 ≤ N ∧ N ≤ 2 ∧ (c = 2 → N = 1) ∧ ρ' = [.raw (.ref τ), .raw (.ref ω), .val (nI (d + 1)), .val (nI lvl), .val (.int (c : Int)), .val (.list (xs.map .str)), .val a.toD, .no, .no, .no] ∧ o' = toOb K τ ω t1) ?_ ?_)
  · repeat array_get_dec
    refine bs_nd (fun h => ?_) fun h => ?_
    · repeat array_get_dec
      refine ⟨τ, 2, rfl, rfl, by decide, by decide, fun m m0 m1 => ?_⟩
      repeat array_get_dec
      exact ⟨by omega, by omega, fun z => absurd (show (c : Int) = 2 by omega) h, rfl, rfl⟩
    · repeat array_get_dec
      exact ⟨by decide, by decide, fun _ => rfl, rfl, rfl⟩
  rintro _ _ _ ⟨N, rfl, hN1, hN2, hN3, rfl, rfl⟩
  refine ⟨N, rfl, by omega, by omega, fun k ρ' o' => Hold (∃ (a : Tr) (zs : List Pc) (t' : Str) (x7 x8 x9 : Sl), o' = toOb K τ ω t' ∧ Doc t' (ps ++ zs) ∧ BinOk a zs t.length d c k ∧
    ρ' = [.raw (.ref τ), .raw (.ref ω), .val (nI (d + 1)), .val (nI lvl), .val (.int (c : Int)), .val (.list (xs.map .str)), .val a.toD, x7, x8, x9]), hold ⟨a, zs, t1, _, _, _, rfl, D1, bin_start hp T1, rfl⟩, ?_, ?_⟩
  · rintro k _ _ hk ⟨a, zs, t', x7, x8, x9, rfl, D', A, rfl⟩
    have hk2 : k < 2 := by omega
    have hkc : c = 2 → k = 0 := fun z => by have := hN3 z; omega
    have l3 := D'.len
    rw [flen_app, ← l0] at l3
    have hb := A.b
    have hn := A.n
    have hm : (k + 1) * (nB d + 1) ≤ 2 * (nB d + 1) := Nat.mul_le_mul_right _ (by omega)
    refine xg_nd ?_
    repeat array_get_dec
    rw [List.length_map]
    refine ⟨τ, (xs.length : Int), rfl, rfl, by omega, by omega, fun j j0 j1 => ?_⟩
    have hj := List.getElem?_eq_getElem (show j.toNat < xs.length by omega)
    generalize xs[j.toNat] = x at hj
    obtain ⟨x1, x2, x3⟩ := hxa _ _ hj
    repeat array_get_dec
    refine xr_ixL isl_d (atD_of (j := j.toNat) (v := .str x) (by omega) (by rw [List.getElem?_map, hj]; rfl)) ?_
    repeat array_get_dec
    refine ⟨τ, ω, t', x, _, rfl, rfl, D', x2, by omega, by omega, fun g hg D2 => ?_⟩
    have l4 := D2.len
    rw [flen_app, ← D'.len, l3] at l4
    simp only [flen_cons, flen_nil] at l4
    repeat array_get_dec
    rw [e5]
    repeat array_get_dec
    refine xr_ixL isl_n (atD_of (j := c) rfl (levs_at c c2)) ?_
    repeat array_get_dec
    refine ⟨τ, ω, _, _, d, c + 1, rfl, rfl, D2, by omega, by omega, by omega, fun b ws t3 hp2 D3 T3 => ?_⟩
    have hp2 : Pri (.lv (c + 1)) d (t' ++ g ++ x).length b ws := by
      have hp2 : Pri (if c + 1 = 0 then .val else .lv (c + 1)) d (t' ++ g ++ x).length b ws := hp2
      rwa [if_neg (Nat.succ_ne_zero c)] at hp2
    have e6 : (t' ++ g ++ x).length = t.length + flen (zs ++ [⟨g, x⟩]) := by rw [l4]; simp only [flen_app, flen_cons, flen_nil]; omega
    rw [e6] at hp2
    have B := bin_step A hkc x1 x3 hg hp2 T3
    obtain ⟨wa, ra, ha⟩ := a.toD_eq
    obtain ⟨wb, rb, hb⟩ := b.toD_eq
    rw [ha, hb]
    repeat array_get_dec
    refine xr_ixT (atD_of (j := 1) rfl rfl) ?_
    repeat array_get_dec
    refine xr_ixT (atD_of (j := 2) rfl rfl) ?_
    repeat array_get_dec
    refine hold ⟨_, _, t3, .val (.int (k : Int)), .val (.str x), .val b.toD, rfl, by simpa only [List.append_assoc, List.cons_append, List.nil_append] using D3, B, ?_⟩
    simp only [List.set_cons_succ, List.set_cons_zero, Tr.toD, ha, hb, Int.zero_add]
    try rfl
  · rintro _ _ ⟨a, zs, t', x7, x8, x9, rfl, D', A, rfl⟩
    repeat array_get_dec
    obtain ⟨h1, h2⟩ := bin_end (L := lvl) A (by omega) (by omega) c1 (by omega)
    exact q _ _ _ h1 D' h2
theorem ok__law_tree (T : Txt K mg) (n : Nat) (G__law_take : FnOk P w K mg base CX0 1 T.a__law_take T.fd__law_take ["_law_tape_here", "_law_many"] (spD K (S__law_take K))) (G__law_some_name : FnOk P w K mg base CX0 2 T.a__law_some_name T.fd__law_some_name ["_law_tape_here"] (spD K (S__law_some_name K))) (G__law_token_out : FnOk P w K mg base CX0 3 T.a__law_token_out T.fd__law_token_out ["_law_tape_here", "_law_out", "_law_string"] (spD K (S__law_token_out K))) (G__law_leaf : FnOk P w K mg base CX0 4 T.a__law_leaf T.fd__law_leaf ["_law_tape_here", "_law_out", "_law_choice"] (spD K (S__law_leaf K))) (G__law_call : FnOk P w K mg base CX0 (2 * n + 5) T.a__law_call T.fd__law_call ["_law_tape_here", "_law_out", "_law_depth"] (spD K (S__law_call n K))) (G__law_reach : FnOk P w K mg base CX0 (2 * n + 5) T.a__law_reach T.fd__law_reach ["_law_tape_here", "_law_out", "_law_depth"] (spD K (S__law_reach n K))) (G__law_prefix : FnOk P w K mg base CX0 (2 * n + 5) T.a__law_prefix T.fd__law_prefix ["_law_tape_here", "_law_out", "_law_depth", "_law_word", "_law_sign", "_law_level"] (spD K (S__law_prefix n K))) (G__law_binary : FnOk P w K mg base CX0 (2 * n + 5) T.a__law_binary T.fd__law_binary ["_law_tape_here", "_law_out", "_law_depth", "_law_level"] (spD K (S__law_binary n K))) (G__law_wide : FnOk P w K mg base CX0 (2 * n + 5) T.a__law_wide T.fd__law_wide ["_law_tape_here", "_law_out", "_law_depth", "_law_choice"] (spD K (S__law_wide n K))) (G__law_tree : FnOk P w K mg base CX0 (2 * n + 5) T.a__law_tree T.fd__law_tree ["_law_tape_here", "_law_out", "_law_depth", "_law_level"] (spD K (S__law_treeP n K))) : FnOk P w K mg base CX0 (2 * n + 6) T.a__law_tree T.fd__law_tree ["_law_tape_here", "_law_out", "_law_depth", "_law_level"] (spD K (S__law_tree n K)) := by
  refine fnD T.F__law_tree sc__law_tree ?len fun cdv A outer s H E hr => ?body
  case len => intro dvs o R X h; first | (obtain ⟨rfl, _⟩ := h; rfl) | (obtain ⟨_, rfl, _⟩ := h; rfl) | (obtain ⟨_, _, rfl, _⟩ := h; rfl) | (obtain ⟨_, _, _, rfl, _⟩ := h; rfl) | (obtain ⟨_, _, _, _, rfl, _⟩ := h; rfl) | (obtain ⟨_, _, _, _, _, rfl, _⟩ := h; rfl) | (obtain ⟨_, _, _, _, _, _, rfl, _⟩ := h; rfl) | (obtain ⟨_, _, _, _, _, _, _, rfl, _⟩ := h; rfl) | (obtain ⟨_, _, _, _, _, _, _, _, rfl, _⟩ := h; rfl) | (obtain ⟨_, _, _, _, _, _, _, _, _, rfl, _⟩ := h; rfl) | (obtain ⟨_, _, _, _, _, _, _, _, _, _, rfl, _⟩ := h; rfl) | (obtain ⟨_, _, _, _, _, _, _, _, _, _, _, rfl, _⟩ := h; rfl) | (obtain ⟨_, _, _, _, _, _, _, _, _, _, _, _, rfl, _⟩ := h; rfl)
  have nd := sc__law_tree.nd
  have hu := hu_of hr
  refine ⟨_, (pss_cons (ps_set (i := 4) nd rfl (Or.inl rfl) (pe_ifExp (pt_cmpR (op_gt) (pv 2) pe_int (nomark _)) (pe_call G__law_take (hr.mono (by first | decide | omega)) (by rfl) T.g__law_take T.F__law_take.kp T.b__law_take .nil pass0 (pa_cons (pv 0) (pa_cons pe_int pa_nil))) (pe_call G__law_take (hr.mono (by first | decide | omega)) (by rfl) T.g__law_take T.F__law_take.kp T.b__law_take .nil pass0 (pa_cons (pv 0) (pa_cons pe_int pa_nil))))) (pss_cons (ps_if (PW.pt (pw_and (pt_cmpR (DL.op_eqK (K := K) rfl hr.units) (pv 3) pe_int (nomark _)) (pw_and1 (pt_cmpR (op_gt) (pv 4) pe_int (nomark _))))) (pss_one (ps_ret (pe_call G__law_wide (hr.mono (by first | decide | omega)) (by rfl) T.g__law_wide T.F__law_wide.kp T.b__law_wide .nil pass0 (pa_cons (pv 0) (pa_cons (pv 1) (pa_cons (pv 2) (pa_cons (pv 4) pa_nil))))))) pss_nil) (pss_cons (ps_if (pt_cmpR (DL.op_ltU) (pv 4) pe_int (nomark _)) (pss_one (ps_ret (pe_call G__law_leaf (hr.mono (by first | decide | omega)) (by rfl) T.g__law_leaf T.F__law_leaf.kp T.b__law_leaf .nil pass0 (pa_cons (pv 0) (pa_cons (pv 1) (pa_cons (pv 4) pa_nil)))))) pss_nil) (pss_cons (ps_if (pt_cmpR (DL.op_ltU) (pv 4) pe_int (nomark _)) (pss_cons (ps_set (i := 5) nd rfl (Or.inl rfl) (pe_call G__law_some_name (hr.mono (by first | decide | omega)) (by rfl) T.g__law_some_name T.F__law_some_name.kp T.b__law_some_name .nil pass0 (pa_cons (pv 0) pa_nil))) (pss_cons (ps_set (i := 6) nd rfl (Or.inl rfl) (pe_call G__law_token_out (hr.mono (by first | decide | omega)) (by rfl) T.g__law_token_out T.F__law_token_out.kp T.b__law_token_out .nil pass0 (pa_cons (pv 0) (pa_cons (pv 1) (pa_cons (pv 5) pa_nil))))) (pss_one (ps_ret (pe_tup (pa_cons pe_str (pa_cons (pv 6) (pa_cons (pe_op (DL.op_addK (K := K) rfl) (pv 6) (pe_callB (DL.call_lenK (K := K) rfl) (by rfl) T.n_len (by decide +kernel) (pa_cons (pv 5) pa_nil))) (pa_cons (pv 5) pa_nil))))))))) pss_nil) (pss_cons (ps_if (pt_cmpR (DL.op_eqK (K := K) rfl hr.units) (pv 4) pe_int (nomark _)) (pss_one (ps_ret (pe_call G__law_call (hr.mono (by first | decide | omega)) (by rfl) T.g__law_call T.F__law_call.kp T.b__law_call .nil pass0 (pa_cons (pv 0) (pa_cons (pv 1) (pa_cons (pv 2) pa_nil)))))) pss_nil) (pss_cons (ps_if (pt_cmpR (DL.op_eqK (K := K) rfl hr.units) (pv 4) pe_int (nomark _)) (pss_one (ps_ret (pe_call G__law_reach (hr.mono (by first | decide | omega)) (by rfl) T.g__law_reach T.F__law_reach.kp T.b__law_reach .nil pass0 (pa_cons (pv 0) (pa_cons (pv 1) (pa_cons (pv 2) pa_nil)))))) pss_nil) (pss_cons (ps_if (PW.pt (pw_and (pt_cmpR (DL.op_eqK (K := K) rfl hr.units) (pv 4) pe_int (nomark _)) (pw_and1 (pt_cmpR (DL.op_ltU) (pv 3) pe_int (nomark _))))) (pss_one (ps_ret (pe_call G__law_prefix (hr.mono (by first | decide | omega)) (by rfl) T.g__law_prefix T.F__law_prefix.kp T.b__law_prefix .nil pass0 (pa_cons (pv 0) (pa_cons (pv 1) (pa_cons (pv 2) (pa_cons pe_str (pa_cons pe_str (pa_cons pe_int pa_nil))))))))) pss_nil) (pss_cons (ps_if (PW.pt (pw_and (pt_cmpR (DL.op_eqK (K := K) rfl hr.units) (pv 4) pe_int (nomark _)) (pw_and1 (pt_cmpR (DL.op_ltU) (pv 3) pe_int (nomark _))))) (pss_one (ps_ret (pe_call G__law_prefix (hr.mono (by first | decide | omega)) (by rfl) T.g__law_prefix T.F__law_prefix.kp T.b__law_prefix .nil pass0 (pa_cons (pv 0) (pa_cons (pv 1) (pa_cons (pv 2) (pa_cons pe_str (pa_cons pe_str (pa_cons pe_int pa_nil))))))))) pss_nil) (pss_cons (ps_if (PW.pt (pw_and (pt_cmpR (DL.op_ltU) (pv 4) pe_int (nomark _)) (pw_and1 (pt_cmpR (DL.op_ltU) (pv 3) pe_int (nomark _))))) (pss_one (ps_ret (pe_call G__law_binary (hr.mono (by first | decide | omega)) (by rfl) T.g__law_binary T.F__law_binary.kp T.b__law_binary .nil pass0 (pa_cons (pv 0) (pa_cons (pv 1) (pa_cons (pv 2) (pa_cons (pv 3) pa_nil))))))) pss_nil) (pss_cons (ps_set (i := 6) nd rfl (Or.inl rfl) (pe_call G__law_token_out (hr.mono (by first | decide | omega)) (by rfl) T.g__law_token_out T.F__law_token_out.kp T.b__law_token_out .nil pass0 (pa_cons (pv 0) (pa_cons (pv 1) (pa_cons pe_str pa_nil))))) (pss_cons (ps_set (i := 7) nd rfl (Or.inl rfl) (pe_call G__law_tree (hr.mono (by first | decide | omega)) (by rfl) T.g__law_tree T.F__law_tree.kp T.b__law_tree .nil pass0 (pa_cons (pv 0) (pa_cons (pv 1) (pa_cons (pe_op op_sub (pv 2) pe_int) (pa_cons pe_int pa_nil)))))) (pss_cons (ps_set (i := 8) nd rfl (Or.inl rfl) (pe_op (DL.op_addK (K := K) rfl) (pe_call G__law_token_out (hr.mono (by first | decide | omega)) (by rfl) T.g__law_token_out T.F__law_token_out.kp T.b__law_token_out .nil pass0 (pa_cons (pv 0) (pa_cons (pv 1) (pa_cons pe_str pa_nil)))) pe_int)) (pss_one (ps_ret (pe_tup (pa_cons pe_str (pa_cons (pv 6) (pa_cons (pv 8) (pa_cons (pv 7) pa_nil))))))))))))))))))), ?_⟩
  intro dvs o R X h
  have st : ∀ z, dvs = z → startD N__law_tree.length dvs = startD 9 z := fun z e => by rw [e]; rfl
  obtain ⟨τ, ω, t, ps, dep, lvl, rfl, rfl, D, hd, hlv, hl, q⟩ := h
  rw [st _ rfl]; clear st; simp only [startD, toSl, List.map_cons, List.map_nil, List.length_cons, List.length_nil, List.cons_append, List.nil_append, List.append_nil, Nat.reduceAdd, Nat.reduceSub, List.reduceReplicate, Nat.zero_add, List.replicate_zero, Nat.sub_self]
  have hs : sizeLine = 16777216 := sizeLine_eq
  have l0 := D.len
  have hNp := nB_pos dep
  have lvp : ∀ a zs, Pri (.lv lvl) dep t.length a zs → mdP dep lvl t.length a zs := fun a zs h => by
    by_cases h0 : lvl = 0
    · subst h0; exact .lo h
    · show Pri (if lvl = 0 then .val else .lv lvl) dep t.length a zs
      rw [if_neg h0]; exact h
  refine xs_cut (fun ρ' o' => Hold (∃ k : Nat, k < 14 ∧ (dep = 0 → k < 4) ∧ o' = toOb K τ ω t ∧ ρ' = [.raw (.ref τ), .raw (.ref ω), .val (nI dep), .val (nI lvl), .val (nI k), .no, .no, .no, .no])) ?_ ?_
  · repeat array_get_dec
    refine bs_d (fun h => ?_) fun h => ?_
    · have h : (dep : Int) > 0 := h
      repeat array_get_dec
      refine ⟨τ, 14, rfl, rfl, by decide, by decide, fun k k0 k1 => ?_⟩
      obtain ⟨c, rfl⟩ : ∃ c : Nat, k = (c : Int) := ⟨k.toNat, by omega⟩
      repeat array_get_dec
      exact hold ⟨c, by omega, fun z => by omega, rfl, rfl⟩
    · repeat array_get_dec
      refine ⟨τ, 4, rfl, rfl, by decide, by decide, fun k k0 k1 => ?_⟩
      obtain ⟨c, rfl⟩ : ∃ c : Nat, k = (c : Int) := ⟨k.toNat, by omega⟩
      repeat array_get_dec
      exact hold ⟨c, by omega, fun z => by omega, rfl, rfl⟩
  rintro _ _ ⟨c, hc, hc0, rfl, rfl⟩
  have nzd : ∀ (z : Prop), ¬ z → 4 ≤ c → 1 ≤ dep := fun _ _ h => by
    rcases Nat.eq_zero_or_pos dep with h0 | h0
    · have := hc0 h0; omega
    · exact h0
  refine xs_cut (fun ρ' o' => Hold ((lvl = 0 → c ≤ 10) ∧ o' = toOb K τ ω t ∧ ρ' = [.raw (.ref τ), .raw (.ref ω), .val (nI dep), .val (nI lvl), .val (nI c), .no, .no, .no, .no])) ?_ ?_
  · repeat array_get_dec
    refine bs_d (fun h => ?_) fun h => ?_
    · have h : (lvl : Int) = 0 := h
      repeat array_get_dec
      refine bs_d (fun h2 => ?_) fun h2 => ?_
      · have h2 : (10 : Int) < (c : Int) := h2
        have hd1 : 1 ≤ dep := nzd False id (by omega)
        obtain rfl : lvl = 0 := by omega
        repeat array_get_dec
        exact ⟨τ, ω, t, ps, dep, c, rfl, rfl, D, by omega, by omega, hd1, hd, hl, q⟩
      · have h2 : ¬ (10 : Int) < (c : Int) := h2
        repeat array_get_dec
        exact hold ⟨fun _ => by omega, rfl, rfl⟩
    · have h : ¬ (lvl : Int) = 0 := h
      repeat array_get_dec
      exact hold ⟨fun z => by omega, rfl, rfl⟩
  rintro _ _ ⟨hcl, rfl, rfl⟩
  have tq : ∀ e, e ≤ dep → ∀ {Q : Tr → List Pc → Prop}, (∀ a zs, Q a zs → Pri (.lv lvl) dep t.length a zs) → TreeR K τ ω t ps e Q R := fun e he Q hQ a zs t' h D' T => q a zs t' (lvp a zs (hQ a zs h)) D' (T.mono he)
  repeat array_get_dec
  refine bs_d (fun h => ?_) fun h => ?_
  · have h : (c : Int) < 2 := h
    repeat array_get_dec
    exact ⟨τ, ω, t, ps, c, rfl, rfl, D, by omega, by omega, tq 0 (Nat.zero_le _) fun a zs h => h lvl dep⟩
  have h : ¬ (c : Int) < 2 := h
  repeat array_get_dec
  refine bs_d (fun h4 => ?_) fun h4 => ?_
  · repeat array_get_dec
    refine ⟨τ, rfl, rfl, fun z z1 z2 z3 => ?_⟩
    repeat array_get_dec
    refine ⟨τ, ω, t, z, ps, rfl, rfl, D, z2, by omega, by omega, fun g hg D1 => ?_⟩
    repeat array_get_dec
    refine xc_lenS (by omega) ?_
    repeat array_get_dec
    exact q (.nam (t.length + g.length) (t.length + g.length + z.length) z) _ _ (lvp _ _ (.nam z1)) D1 ((treeOk_one (Nat.le_refl _) (Nat.le_refl _) rfl hg (by omega)).mono (Nat.zero_le _))
  have h4 : ¬ (c : Int) < 4 := h4
  have hd1 : 1 ≤ dep := nzd False id (by omega)
  repeat array_get_dec
  refine bs_d (fun h5 => ?_) fun h5 => ?_
  · repeat array_get_dec
    exact ⟨τ, ω, t, ps, dep, rfl, rfl, D, hd1, hd, hl, tq dep (Nat.le_refl _) fun a zs h => h lvl⟩
  have h5 : ¬ (c : Int) = 4 := h5
  repeat array_get_dec
  refine bs_d (fun h6 => ?_) fun h6 => ?_
  · repeat array_get_dec
    exact ⟨τ, ω, t, ps, dep, rfl, rfl, D, hd1, hd, hl, tq dep (Nat.le_refl _) fun a zs h => h lvl⟩
  have h6 : ¬ (c : Int) = 5 := h6
  have hstop := hrest
  clear hrest
  repeat array_get_dec
  refine hstop _ _ (xs_cut (fun ρ' o' => Hold (o' = toOb K τ ω t ∧ ρ' = [.raw (.ref τ), .raw (.ref ω), .val (nI dep), .val (nI lvl), .val (nI c), .no, .no, .no, .no])) ?_ ?_)
  all_goals clear hstop
  · repeat array_get_dec
    refine bs_d (fun h7 => ?_) fun h7 => ?_
    · repeat array_get_dec
      refine bs_d (fun h8 => ?_) fun h8 => ?_
      · have h8 : (lvl : Int) < 6 := h8
        repeat array_get_dec
        exact ⟨τ, ω, t, ps, dep, "minus", "-", 5, lvl, rfl, rfl, D, .inl ⟨rfl, rfl, rfl, by omega⟩, hd1, hd, hl, tq dep (Nat.le_refl _) fun a zs h => h⟩
      · repeat array_get_dec
        exact hold ⟨rfl, rfl⟩
    · repeat array_get_dec
      exact hold ⟨rfl, rfl⟩
  rintro _ _ ⟨rfl, rfl⟩
  refine xs_cut (fun ρ' o' => Hold (o' = toOb K τ ω t ∧ ρ' = [.raw (.ref τ), .raw (.ref ω), .val (nI dep), .val (nI lvl), .val (nI c), .no, .no, .no, .no])) ?_ ?_
  · repeat array_get_dec
    refine bs_d (fun h7 => ?_) fun h7 => ?_
    · repeat array_get_dec
      refine bs_d (fun h8 => ?_) fun h8 => ?_
      · have h8 : (lvl : Int) < 3 := h8
        repeat array_get_dec
        exact ⟨τ, ω, t, ps, dep, "not", "not", 2, lvl, rfl, rfl, D, .inr ⟨rfl, rfl, rfl, by omega⟩, hd1, hd, hl, tq dep (Nat.le_refl _) fun a zs h => h⟩
      · repeat array_get_dec
        exact hold ⟨rfl, rfl⟩
    · repeat array_get_dec
      exact hold ⟨rfl, rfl⟩
  rintro _ _ ⟨rfl, rfl⟩
  refine xs_cut (fun ρ' o' => Hold (o' = toOb K τ ω t ∧ ρ' = [.raw (.ref τ), .raw (.ref ω), .val (nI dep), .val (nI lvl), .val (nI c), .no, .no, .no, .no])) ?_ ?_
  · repeat array_get_dec
    refine bs_d (fun h7 => ?_) fun h7 => ?_
    · repeat array_get_dec
      refine bs_d (fun h8 => ?_) fun h8 => ?_
      · have h8 : (lvl : Int) < 5 := h8
        repeat array_get_dec
        exact ⟨τ, ω, t, ps, dep, lvl, rfl, rfl, D, by omega, hd1, hd, hl, tq dep (Nat.le_refl _) fun a zs h => h⟩
      · repeat array_get_dec
        exact hold ⟨rfl, rfl⟩
    · repeat array_get_dec
      exact hold ⟨rfl, rfl⟩
  rintro _ _ ⟨rfl, rfl⟩
  obtain ⟨d, rfl⟩ : ∃ d, dep = d + 1 := ⟨dep - 1, by omega⟩
  obtain ⟨m, rfl⟩ : ∃ m, n = m + 1 := ⟨n - 1, by omega⟩
  have hN : nB (d + 1) = 3 * nB d + 5 := rfl
  have hNp := nB_pos d
  have e5 : ((d + 1 : Nat) : Int) - 1 = (d : Int) := by omega
  have u1 : ("(" : Str).length = 1 := by decide +kernel
  have u2 : (")" : Str).length = 1 := by decide +kernel
  repeat array_get_dec
  refine ⟨τ, ω, t, "(", ps, rfl, rfl, D, by decide +kernel, by omega, by decide +kernel, fun g1 hg1 D1 => ?_⟩
  have l1 := D1.len
  rw [flen_app, ← l0] at l1
  simp only [flen_cons, flen_nil] at l1
  repeat array_get_dec
  rw [e5]
  refine ⟨m, rfl, τ, ω, _, _, d, 0, rfl, rfl, D1, by omega, by omega, by omega, fun a zs t2 hp1 D2 T1 => ?_⟩
  have hp1 : Pri .val d (t ++ g1 ++ "(").length a zs := hp1
  have l2 := D2.len
  rw [flen_app, ← D1.len, l1] at l2
  have b1 := T1.b
  have n1 := T1.n
  repeat array_get_dec
  refine ⟨τ, ω, _, ")", _, rfl, rfl, D2, by decide +kernel, by omega, by decide +kernel, fun g2 hg2 D3 => ?_⟩
  repeat array_get_dec
  have h1 : Pri .val d (t.length + flen [⟨g1, "("⟩]) a zs := by
    rw [l1] at hp1; simp only [flen_cons, flen_nil]; exact hp1
  have e7 : t2.length + g2.length + 1 = t.length + flen (⟨g1, "("⟩ :: (zs ++ [⟨g2, ")"⟩])) := by
    rw [l2]
    simp only [flen_cons, flen_nil, flen_app]; omega
  have q := q (.grp (t.length + g1.length) (t.length + flen (⟨g1, "("⟩ :: (zs ++ [⟨g2, ")"⟩]))) a) _ _ (lvp _ _ (.grp h1)) (by simpa only [List.append_assoc, List.cons_append, List.nil_append] using D3) (tree_grp T1 hg1 hg2)
  rw [← e7] at q
  exact q
theorem mores_at (j : Nat) (hj : j < 7) : ∃ z : Str, ([PyData.str "then", .str ")", .str "5", .str "=", .str "in", .str "?", .str ","])[j]? = some (.str z) ∧ wordB (TL.tl z) = true ∧ z.length ≤ 4 ∧ opl (fxW z) = none := by
  match j, hj with
  | 0, _ => exact ⟨_, rfl, by decide +kernel, by decide +kernel, by decide +kernel⟩
  | 1, _ => exact ⟨_, rfl, by decide +kernel, by decide +kernel, by decide +kernel⟩
  | 2, _ => exact ⟨_, rfl, by decide +kernel, by decide +kernel, by decide +kernel⟩
  | 3, _ => exact ⟨_, rfl, by decide +kernel, by decide +kernel, by decide +kernel⟩
  | 4, _ => exact ⟨_, rfl, by decide +kernel, by decide +kernel, by decide +kernel⟩
  | 5, _ => exact ⟨_, rfl, by decide +kernel, by decide +kernel, by decide +kernel⟩
  | 6, _ => exact ⟨_, rfl, by decide +kernel, by decide +kernel, by decide +kernel⟩
theorem readV_ok {t : Str} {tr : Tr} {zs : List Pc} (hp : Pri .val 3 0 tr zs) (D : Doc t zs) (hf : tr.fu ≤ 61) : readV t 72 = .ok tr zs.length 0 := by
  have hc := D.count
  have h := read_doc (post := []) hp (by decide) (by rw [List.append_nil]; exact D) (by
    have e : fx t (ksT t) zs.length = "" := by
      unfold fx
      rw [srt_end (by omega), if_neg (by decide +kernel)]
    rw [e]; exact stop_none (by decide +kernel)) 72 (by omega)
  unfold readV
  rw [h]
  show (if (ksT t).length ≤ zs.length then Rs.ok tr zs.length 0 else _) = _
  rw [if_pos (by omega)]
theorem readV_bad {t : Str} {tr : Tr} {zs : List Pc} {g z : Str} (hp : Pri .val 3 0 tr zs) (D : Doc t (zs ++ [⟨g, z⟩])) (hf : tr.fu ≤ 61) (hz : opl (fxW z) = none) : readV t 72 = .bad (flen zs + g.length) (flen zs + g.length + z.length) := by
  have hc := D.count
  rw [List.length_append, List.length_singleton] at hc
  have sq := seq_doc D [⟨g, z⟩] zs [] rfl
  have h := read_doc (post := [⟨g, z⟩]) hp (by decide) D (by
    rw [seq_fx sq]; exact stop_none hz) 72 (by omega)
  unfold readV
  rw [h]
  show (if (ksT t).length ≤ zs.length then _ else Rs.bad (plc (ksT t) zs.length).1 (plc (ksT t) zs.length).2) = _
  rw [if_neg (by omega), seq_plc sq]
theorem lk_start (a b : PyData) : List.lookup ("start" : Str) ([(("end" : Str), a), (("start" : Str), b)] : List (Str × PyData)) = some b := by with_unfolding_all rfl
theorem lk_end (a b : PyData) : List.lookup ("end" : Str) ([(("end" : Str), a), (("start" : Str), b)] : List (Str × PyData)) = some a := by with_unfolding_all rfl
theorem ok_law (T : Txt K mg) (G__law_same : FnOk P w K mg base CX0 22 T.a__law_same T.fd__law_same ["_law_actual", "_law_expected"] (spD K (S__law_same 10 K))) (G__law_take : FnOk P w K mg base CX0 1 T.a__law_take T.fd__law_take ["_law_tape_here", "_law_many"] (spD K (S__law_take K))) (G__law_tape : FnOk P w K mg base CX0 1 T.a__law_tape T.fd__law_tape ["_law_script"] (spD K (S__law_tape K))) (G__law_token_out : FnOk P w K mg base CX0 3 T.a__law_token_out T.fd__law_token_out ["_law_tape_here", "_law_out", "_law_string"] (spD K (S__law_token_out K))) (G__law_tree : FnOk P w K mg base CX0 12 T.a__law_tree T.fd__law_tree ["_law_tape_here", "_law_out", "_law_depth", "_law_level"] (spD K (S__law_tree 3 K))) (G_read_value : FnOk P w K mg base (L2N.CX P w) 80 T.a_read_value T.fd_read_value ["text"] (spD K (S_read_value 72 K))) (H__law_same : L2H.FnH P w K mg base CX0 22 T.a__law_same T.fd__law_same ["_law_actual", "_law_expected"] (spD K (S__law_same 10 K))) : FnOk P w K mg base CX0 81 T.a_law T.fd_law ["_law_script"] (spD K (S_law K)) := by
  refine fnD T.F_law sc_law ?len fun cdv A outer s H E hr => ?body
  case len => intro dvs o R X h; first | (obtain ⟨rfl, _⟩ := h; rfl) | (obtain ⟨_, rfl, _⟩ := h; rfl) | (obtain ⟨_, _, rfl, _⟩ := h; rfl) | (obtain ⟨_, _, _, rfl, _⟩ := h; rfl) | (obtain ⟨_, _, _, _, rfl, _⟩ := h; rfl) | (obtain ⟨_, _, _, _, _, rfl, _⟩ := h; rfl) | (obtain ⟨_, _, _, _, _, _, rfl, _⟩ := h; rfl) | (obtain ⟨_, _, _, _, _, _, _, rfl, _⟩ := h; rfl) | (obtain ⟨_, _, _, _, _, _, _, _, rfl, _⟩ := h; rfl) | (obtain ⟨_, _, _, _, _, _, _, _, _, rfl, _⟩ := h; rfl) | (obtain ⟨_, _, _, _, _, _, _, _, _, _, rfl, _⟩ := h; rfl) | (obtain ⟨_, _, _, _, _, _, _, _, _, _, _, rfl, _⟩ := h; rfl) | (obtain ⟨_, _, _, _, _, _, _, _, _, _, _, _, rfl, _⟩ := h; rfl)
  have nd := sc_law.nd
  have hu := hu_of hr
  refine ⟨_, (pss_cons (ps_set (i := 1) nd rfl (Or.inl rfl) (pe_call G__law_tape (hr.mono (by first | decide | omega)) (by rfl) T.g__law_tape T.F__law_tape.kp T.b__law_tape .nil pass0 (pa_cons (pv 0) pa_nil))) (pss_cons (ps_set (i := 2) nd rfl (Or.inl rfl) (pe_disp (pps_cons pe_str pe_str pps_nil) (by rfl) (by rfl) (fun z => by cases z) (by decide))) (pss_cons (ps_set (i := 3) nd rfl (Or.inl rfl) (pe_call G__law_tree (hr.mono (by first | decide | omega)) (by rfl) T.g__law_tree T.F__law_tree.kp T.b__law_tree .nil pass0 (pa_cons (pv 1) (pa_cons (pv 2) (pa_cons pe_int (pa_cons pe_int pa_nil)))))) (pss_cons (ps_if (pt_not (pt_val (pe_call G__law_same (hr.mono (by first | decide | omega)) (by rfl) T.g__law_same T.F__law_same.kp T.b__law_same .nil pass0 (pa_cons (pe_callS G_read_value (hr.mono (by first | decide | omega)) (by rfl) T.g_read_value T.F_read_value.kp T.b_read_value (fun _ => DL.passAN) (pa_cons (pe_dget hu (pv 2) pe_str (fun _ _ => rfl)) pa_nil)) (pa_cons (pv 3) pa_nil))))) (pss_one (ps_ret pe_bl)) pss_nil) (pss_cons (ps_set (i := 4) nd rfl (Or.inl rfl) (pe_ix (DL.ix_K (K := K) rfl) (pe_lst (pa_cons pe_str (pa_cons pe_str (pa_cons pe_str (pa_cons pe_str (pa_cons pe_str (pa_cons pe_str (pa_cons pe_str pa_nil)))))))) (pe_call G__law_take (hr.mono (by first | decide | omega)) (by rfl) T.g__law_take T.F__law_take.kp T.b__law_take .nil pass0 (pa_cons (pv 1) (pa_cons pe_int pa_nil))) (fun _ _ => rfl))) (pss_cons (ps_set (i := 5) nd rfl (Or.inl rfl) (pe_call G__law_token_out (hr.mono (by first | decide | omega)) (by rfl) T.g__law_token_out T.F__law_token_out.kp T.b__law_token_out .nil pass0 (pa_cons (pv 1) (pa_cons (pv 2) (pa_cons (pv 4) pa_nil))))) (pss_cons (DL.ps_tryAsN (K := K) (i := 6) rfl rfl rfl nd rfl rfl ⟨by rfl, by decide, .inl T.g_SyntaxProblem⟩ DL.takes0N (fun W pn xe tk po => (pss_one (ps_expr (pe_callS G_read_value (hr.mono (by first | decide | omega)) (by rfl) T.g_read_value T.F_read_value.kp T.b_read_value (fun σ => L2N.passAt tk σ) (pa_cons (pe_dget hu (pv 2) pe_str (fun _ _ => rfl)) pa_nil))))) (fun a oe cls d pn hz hf => (pss_one (ps_ret (pe_and (pe_callB (DL.call_isF (K := K) rfl hz hf) (by rfl) T.n_isinstance (by decide +kernel) (pa_cons (pv 6) (pa_cons (pe_glob (v := .ref T.e_ServerError) (by rfl) T.g_ServerError rfl) pa_nil))) (pe_one (L2H.pe_callH (E := fun _ => E0) H__law_same (DL.roomH_suite (hr.mono (by first | decide | omega))) (DL.hot_suite hz hf) (by rfl) T.g__law_same T.F__law_same.kp T.b__law_same (fun _ => DL.passH) (pa_cons (pe_tup (pa_cons (DL.pe_xfN (C := T.e_SyntaxProblem) ⟨T.y_SyntaxProblem.hg, T.y_SyntaxProblem.hk, T.b_SyntaxProblem, T.d_SyntaxProblem⟩ T.no_SyntaxProblem_start hz hf (pv 6)) (pa_cons (DL.pe_xfN (C := T.e_SyntaxProblem) ⟨T.y_SyntaxProblem.hg, T.y_SyntaxProblem.hk, T.b_SyntaxProblem, T.d_SyntaxProblem⟩ T.no_SyntaxProblem_end hz hf (pv 6)) pa_nil))) (pa_cons (pe_tup (pa_cons (pv 5) (pa_cons (pe_op (DL.op_addK (K := K) rfl) (pv 5) (pe_callB (DL.call_lenK (K := K) rfl) (by rfl) T.n_len (by decide +kernel) (pa_cons (pv 4) pa_nil))) pa_nil))) pa_nil))))))))) (pss_one (ps_ret pe_bl))))))))), ?_⟩
  intro dvs o R X h
  have st : ∀ z, dvs = z → startD N_law.length dvs = startD 7 z := fun z e => by rw [e]; rfl
  obtain ⟨a, ns, rfl, rfl, hn, q⟩ := h
  rw [st _ rfl]; clear st; simp only [startD, toSl, List.map_cons, List.map_nil, List.length_cons, List.length_nil, List.cons_append, List.nil_append, List.append_nil, Nat.reduceAdd, Nat.reduceSub, List.reduceReplicate, Nat.zero_add, List.replicate_zero, Nat.sub_self]
  have hs : sizeLine = 16777216 := sizeLine_eq
  repeat array_get_dec
  refine ⟨a, ns, rfl, rfl, hn, fun cs s h0 h1 h2 => ?_⟩
  repeat array_get_dec
  refine ⟨show 1 ≤ 15 by decide, ?_⟩
  have e0 : mergeD [] ([(Sum.inr ("text" : Str), PyData.str "")] : DKv) = ([(Sum.inr ("text" : Str), PyData.str "")] : DKv) := by with_unfolding_all rfl
  rw [e0]
  repeat array_get_dec
  refine xf_tape rfl ⟨h0, by decide, by decide, h1, h2, by decide⟩ fun τ => ?_
  repeat array_get_dec
  refine xf_pub rfl fun ω => ?_
  repeat array_get_dec
  refine ⟨τ, ω, "", [], 3, 0, rfl, rfl, doc_nil, by decide, by decide, by decide +kernel, fun tr zs t hp D T4 => ?_⟩
  have hz0 : ("" : Str).length = 0 := by decide +kernel
  have hp : Pri .val 3 ("" : Str).length tr zs := hp
  rw [hz0] at hp
  rw [List.nil_append] at D
  have hb := T4.b
  have hn92 : zs.length ≤ 92 := T4.n
  have hf : tr.fu ≤ 61 := T4.f
  have hh : tr.hgt ≤ 7 := T4.h
  have hl := D.len
  have hcn := D.count
  have hsm := (pri_sm hp (by omega)).1 (fun z => nomatch z)
  have r1 := readV_ok hp D hf
  repeat array_get_dec
  refine ⟨t, rfl, by omega, fun k hk => absurd (List.getElem?_eq_some_iff.mp hk).1 (by omega), fun _ => ⟨72, Nat.le_refl _, ?_⟩⟩
  rw [r1]
  repeat array_get_dec
  refine ⟨_, rfl, hsm.mono (by omega), ?_⟩
  repeat array_get_dec
  refine ⟨τ, 7, rfl, rfl, by decide, by decide, fun m m0 m1 => ?_⟩
  obtain ⟨z, hz, zw, zl, zo⟩ := mores_at m.toNat (by omega)
  repeat array_get_dec
  refine xr_ixL isl_n (atD_of (j := m.toNat) (by omega) hz) ?_
  repeat array_get_dec
  refine ⟨τ, ω, t, z, zs, rfl, rfl, D, zw, by omega, by omega, fun g hg D2 => ?_⟩
  have r2 := readV_bad hp D2 hf zo
  have hl2 := D2.len
  have hc2 := D2.count
  rw [flen_app] at hl2
  rw [List.length_append, List.length_singleton] at hc2
  simp only [flen_cons, flen_nil] at hl2
  rw [← hl] at r2
  repeat array_get_dec
  simp only [List.set_cons_succ, List.set_cons_zero]
  refine xs_tryAsF (fun ex ρ' o' => SynEx K (t.length + g.length) (t.length + g.length + z.length) ex ∧ (∃ F : Ob, o' = F.and (toOb K τ ω (t ++ g ++ z))) ∧ ρ' = [.raw (.ref a), .raw (.ref τ), .raw (.ref ω), .val tr.toD, .val (.str z), .val (nI (t.length + g.length)), .no]) (fun W => ?_) ?_ ?_
  · repeat array_get_dec
    refine ⟨_, rfl, by omega, fun k hk => absurd (List.getElem?_eq_some_iff.mp hk).1 (by omega), fun _ => ⟨72, Nat.le_refl _, ?_⟩⟩
    rw [r2]
    exact fun ex F hx => ⟨hx, ⟨F, rfl⟩, rfl⟩
  · rintro cls _ _ ⟨⟨_, hx⟩, _⟩
    cases hx
  · rintro cls fs _ _ ⟨⟨hc, hx⟩, ⟨F, rfl⟩, rfl⟩
    have hc : cls = .ref T.e_SyntaxProblem := Option.some.inj (Option.some.inj (hc.symm.trans T.i_SyntaxProblem))
    subst hc
    have hx : fs = ([(("end" : Str), nI (t.length + g.length + z.length)), (("start" : Str), nI (t.length + g.length))] : List (Str × PyData)) := Option.some.inj hx
    subst hx
    refine ⟨true, PySem.W.exm_ref T.b_SyntaxProblem T.d_SyntaxProblem T.t_SyntaxProblem T.s_SyntaxProblem_SyntaxProblem, fun _ a1 d => ⟨rfl, ?_⟩, fun z => nomatch z⟩
    repeat array_get_dec
    refine xc_isFR rfl T.y_SyntaxProblem (kit_ref T.d_ServerError T.t_ServerError T.s_SyntaxProblem_ServerError) ?_
    repeat array_get_dec
    refine xe_xf rfl (lk_start _ _) (xe_vr rfl ⟨rfl, _, rfl, ?_⟩)
    repeat array_get_dec
    refine xe_xf rfl (lk_end _ _) (xe_vr rfl ⟨rfl, _, rfl, ?_⟩)
    repeat array_get_dec
    refine xc_lenS (by omega) ?_
    repeat array_get_dec
    refine ⟨.tuple [nI (t.length + g.length), nI (t.length + g.length + z.length)], rfl, sm_t (n := 9) rfl (al_c .int (al_c .int al_n)), ?_⟩
    repeat array_get_dec
    exact q _
theorem fn_never {CX : CXT} {k : Nat} {f : Addr} {fd : FuncData} {ps : List Str} {S : DS} (h : ∀ dvs o R X, ¬ S dvs o R X) : FnOk P w K mg base CX k f fd ps (spD K S) :=
  ⟨fun vs H Q E ⟨_, _, _, _, _, _, _, z, _⟩ => (h _ _ _ _ z).elim, fun A outer s H args us vs Q E _ _ _ _ ⟨_, _, _, _, _, _, _, z, _⟩ => (h _ _ _ _ z).elim⟩
theorem rdM_zero {md : Md} {x dx : Addr} {t : Str} {p d : Nat} {f : Tr → PyData} {R : DV → Ob → Prop} {X : Ex → Ob → Prop} (h : RdM K 0 md x dx t p d f R X) : False := by
  obtain ⟨_, _, m, hm, q⟩ := h
  obtain rfl := Nat.le_zero.mp hm
  exact q
structure RdAll (P : Program) (w : World) (K : PySem.W.Frag) (mg : Str → Option Value) (base : Heap) (T : Txt K mg) (n : Nat) : Prop where
  value : (FnOk P w K mg base (L2N.CX P w) (n + 6) T.a_Reader_value T.fd_Reader_value ["self"] (spD K (S_Reader_value n K)))
  let_value : (FnOk P w K mg base (L2N.CX P w) (n + 6) T.a_Reader_let_value T.fd_Reader_let_value ["self", "start"] (spD K (S_Reader_let_value n K)))
  if_value : (FnOk P w K mg base (L2N.CX P w) (n + 6) T.a_Reader_if_value T.fd_Reader_if_value ["self", "start"] (spD K (S_Reader_if_value n K)))
  loop_value : (FnOk P w K mg base (L2N.CX P w) (n + 6) T.a_Reader_loop_value T.fd_Reader_loop_value ["self", "start"] (spD K (S_Reader_loop_value n K)))
  either : (FnOk P w K mg base (L2N.CX P w) (n + 6) T.a_Reader_either T.fd_Reader_either ["self", "level"] (spD K (S_Reader_either n K)))
  negated : (FnOk P w K mg base (L2N.CX P w) (n + 6) T.a_Reader_negated T.fd_Reader_negated ["self"] (spD K (S_Reader_negated n K)))
  compared : (FnOk P w K mg base (L2N.CX P w) (n + 6) T.a_Reader_compared T.fd_Reader_compared ["self"] (spD K (S_Reader_compared n K)))
  chain : (FnOk P w K mg base (L2N.CX P w) (n + 6) T.a_Reader_chain T.fd_Reader_chain ["self", "signs"] (spD K (S_Reader_chain n K)))
  signed : (FnOk P w K mg base (L2N.CX P w) (n + 6) T.a_Reader_signed T.fd_Reader_signed ["self"] (spD K (S_Reader_signed n K)))
  reached : (FnOk P w K mg base (L2N.CX P w) (n + 6) T.a_Reader_reached T.fd_Reader_reached ["self"] (spD K (S_Reader_reached n K)))
  simple : (FnOk P w K mg base (L2N.CX P w) (n + 6) T.a_Reader_simple T.fd_Reader_simple ["self"] (spD K (S_Reader_simple n K)))
  arguments : (FnOk P w K mg base (L2N.CX P w) (n + 6) T.a_Reader_arguments T.fd_Reader_arguments ["self"] (spD K (S_Reader_arguments n K)))
theorem rd_all (T : Txt K mg) : ∀ n, RdAll P w K mg base T n := by
  have Gpl : (FnOk P w K mg base CX0 1 T.a_Reader_place T.fd_Reader_place ["self"] (spD K (S_Reader_place K))) := ok_Reader_place T
  have Gso : (FnOk P w K mg base CX0 1 T.a_Reader_sort_now T.fd_Reader_sort_now ["self"] (spD K (S_Reader_sort_now K))) := ok_Reader_sort_now T
  have Gfx : (FnOk P w K mg base CX0 2 T.a_Reader_fixed T.fd_Reader_fixed ["self"] (spD K (S_Reader_fixed K))) := ok_Reader_fixed T Gpl Gso
  have Gne : (FnOk P w K mg base (L2N.CX P w) 3 T.a_Reader_need T.fd_Reader_need ["self", "condition"] (spD K (S_Reader_need K))) := ok_Reader_need T Gpl (ok_SyntaxProblem___init__ T)
  have Gta : (FnOk P w K mg base (L2N.CX P w) 4 T.a_Reader_take T.fd_Reader_take ["self", "expected"] (spD K (S_Reader_take K))) := ok_Reader_take T Gfx Gne
  have Gtt : (FnOk P w K mg base CX0 3 T.a_Reader_try_take T.fd_Reader_try_take ["self", "expected"] (spD K (S_Reader_try_take K))) := ok_Reader_try_take T Gfx
  have Gle : (FnOk P w K mg base CX0 1 T.a_Reader_last_end T.fd_Reader_last_end ["self"] (spD K (S_Reader_last_end K))) := ok_Reader_last_end T
  have Gma : (FnOk P w K mg base (L2N.CX P w) 4 T.a_Reader_mark T.fd_Reader_mark ["self"] (spD K (S_Reader_mark K))) := ok_Reader_mark T Gne Gpl Gso
  have Gbe : (FnOk P w K mg base (L2N.CX P w) 4 T.a_Reader_begin T.fd_Reader_begin ["self"] (spD K (S_Reader_begin K))) := ok_Reader_begin T Gne Gpl
  have Gnv : (FnOk P w K mg base CX0 1 T.a_number_value T.fd_number_value ["digits"] (spD K (S_number_value K))) := ok_number_value T
  intro n
  induction n with
  | zero =>
    exact ⟨fn_never fun _ _ _ _ ⟨_, _, _, _, _, _, _, h⟩ => rdM_zero h,
      fn_never fun _ _ _ _ ⟨_, _, _, _, _, _, _, _, h⟩ => rdM_zero h,
      fn_never fun _ _ _ _ ⟨_, _, _, _, _, _, _, _, h⟩ => rdM_zero h,
      fn_never fun _ _ _ _ ⟨_, _, _, _, _, _, _, _, h⟩ => rdM_zero h,
      fn_never fun _ _ _ _ ⟨_, _, _, _, _, _, _, _, _, h⟩ => rdM_zero h,
      fn_never fun _ _ _ _ ⟨_, _, _, _, _, _, _, h⟩ => rdM_zero h,
      fn_never fun _ _ _ _ ⟨_, _, _, _, _, _, _, h⟩ => rdM_zero h,
      fn_never fun _ _ _ _ ⟨_, _, _, _, _, _, _, _, h⟩ => rdM_zero h,
      fn_never fun _ _ _ _ ⟨_, _, _, _, _, _, _, h⟩ => rdM_zero h,
      fn_never fun _ _ _ _ ⟨_, _, _, _, _, _, _, h⟩ => rdM_zero h,
      fn_never fun _ _ _ _ ⟨_, _, _, _, _, _, _, h⟩ => rdM_zero h,
      fn_never fun _ _ _ _ ⟨_, _, _, _, _, _, _, h⟩ => rdM_zero h⟩
  | succ n ih =>
    exact ⟨ok_Reader_value T n Gbe Gfx ih.let_value ih.if_value ih.loop_value ih.either,
      ok_Reader_let_value T n Gta Gma ih.value Gle,
      ok_Reader_if_value T n Gta ih.value Gle,
      ok_Reader_loop_value T n Gta Gma ih.value Gle,
      ok_Reader_either T n ih.either ih.negated Gfx,
      ok_Reader_negated T n Gfx ih.compared Gbe Gta ih.negated,
      ok_Reader_compared T n ih.chain Gfx,
      ok_Reader_chain T n ih.chain ih.signed Gfx,
      ok_Reader_signed T n Gfx ih.reached Gbe Gta ih.signed,
      ok_Reader_reached T n ih.simple Gtt Gma Gle,
      ok_Reader_simple T n Gpl Gso Gfx Gtt ih.value Gta Gle Gma ih.arguments Gnv,
      ok_Reader_arguments T n Gta Gfx ih.value Gtt⟩
theorem tree_all (T : Txt K mg) : ∀ n, (FnOk P w K mg base CX0 (2 * n + 6) T.a__law_tree T.fd__law_tree ["_law_tape_here", "_law_out", "_law_depth", "_law_level"] (spD K (S__law_tree n K))) := by
  have Gt : (FnOk P w K mg base CX0 1 T.a__law_take T.fd__law_take ["_law_tape_here", "_law_many"] (spD K (S__law_take K))) := ok__law_take T
  have Gp : (FnOk P w K mg base CX0 1 T.a__law_put T.fd__law_put ["_law_out", "_law_string"] (spD K (S__law_put K))) := ok__law_put T
  have Go : (FnOk P w K mg base CX0 3 T.a__law_token_out T.fd__law_token_out ["_law_tape_here", "_law_out", "_law_string"] (spD K (S__law_token_out K))) := ok__law_token_out T (ok__law_gap T Gp Gt) Gp
  have Gn : (FnOk P w K mg base CX0 2 T.a__law_some_name T.fd__law_some_name ["_law_tape_here"] (spD K (S__law_some_name K))) := ok__law_some_name T Gt
  have Gl : (FnOk P w K mg base CX0 4 T.a__law_leaf T.fd__law_leaf ["_law_tape_here", "_law_out", "_law_choice"] (spD K (S__law_leaf K))) := ok__law_leaf T Gt Go
  intro n
  induction n with
  | zero =>
    exact ok__law_tree T 0 Gt Gn Go Gl (fn_never fun _ _ _ _ ⟨_, _, _, _, dep, _, _, _, h1, h2, _⟩ => by omega) (fn_never fun _ _ _ _ ⟨_, _, _, _, dep, _, _, _, h1, h2, _⟩ => by omega) (fn_never fun _ _ _ _ ⟨_, _, _, _, dep, _, _, _, _, _, _, _, _, h1, h2, _⟩ => by omega) (fn_never fun _ _ _ _ ⟨_, _, _, _, dep, _, _, _, _, _, h1, h2, _⟩ => by omega)
      (fn_never fun _ _ _ _ ⟨_, _, _, _, dep, _, _, _, _, _, _, h1, h2, _⟩ => by omega) (fn_never fun _ _ _ _ ⟨m, hm, _⟩ => by omega)
  | succ n ih =>
    exact ok__law_tree T (n + 1) Gt Gn Go Gl ((ok__law_call T n Gt Gn Go ih).mono (by omega)) ((ok__law_reach T n Gt Gn Go ih).mono (by omega)) ((ok__law_prefix T n Go ih).mono (by omega)) ((ok__law_binary T n Gt Go ih).mono (by omega)) ((ok__law_wide T n Gn Go ih).mono (by omega))
      ((ih.mono (by omega)).imp fun vs H Q E ⟨G, o, dvs, R, X, wd, a, ⟨m, hm, s⟩, q⟩ => by cases hm; exact ⟨G, o, dvs, R, X, wd, a, s, q⟩)
theorem all_ok (T : Txt K mg) : FnOk P w K mg base CX0 81 T.a_law T.fd_law ["_law_script"] (spD K (S_law K)) := by
  have Gt : (FnOk P w K mg base CX0 1 T.a__law_take T.fd__law_take ["_law_tape_here", "_law_many"] (spD K (S__law_take K))) := ok__law_take T
  have Gp : (FnOk P w K mg base CX0 1 T.a__law_put T.fd__law_put ["_law_out", "_law_string"] (spD K (S__law_put K))) := ok__law_put T
  have Go : (FnOk P w K mg base CX0 3 T.a__law_token_out T.fd__law_token_out ["_law_tape_here", "_law_out", "_law_string"] (spD K (S__law_token_out K))) := ok__law_token_out T (ok__law_gap T Gp Gt) Gp
  have Gi : FnOk P w K mg base CX0 1 T.a_SyntaxProblem___init__ T.fd_SyntaxProblem___init__ ["self", "start", "end"] (spI2 T.e_SyntaxProblem "start" "end") := ok_SyntaxProblem___init__ T
  have Gk : (FnOk P w K mg base CX0 4 T.a_tokens T.fd_tokens ["text"] (spD K (S_tokens K))) := ok_tokens T (ok_tokens_between T (ok_token_at T (ok_run_end T)))
  have Gr : (FnOk P w K mg base (L2N.CX P w) 80 T.a_read_value T.fd_read_value ["text"] (spD K (S_read_value 72 K))) := ok_read_value T 72 (ok_Reader___init__ T Gi Gk) (rd_all T 72).value (ok_Reader_finish T (ok_Reader_need T (ok_Reader_place T) Gi))
  exact ok_law T (same_all T 10) Gt (ok__law_tape T) Go (tree_all T 3) Gr (same_allH T 10)
end
theorem all_mk {l : PySem.W.OpenLaw} {w : World} {K : PySem.W.Frag} {h : Heap} {mg : Str → Option Value} {fa : Addr} {f__wall f_SyntaxProblem___init__ f_run_end f_token_at f_tokens_between f_tokens f_number_value f_Reader___init__ f_Reader_place f_Reader_need f_Reader_sort_now f_Reader_fixed f_Reader_last_end f_Reader_take f_Reader_try_take f_Reader_mark f_Reader_marks f_Reader_finish f_Reader_field f_Reader_fields f_Reader_bound f_Reader_begin f_Reader_value f_Reader_let_value f_Reader_if_value f_Reader_loop_value f_Reader_either f_Reader_negated f_Reader_compared f_Reader_chain f_Reader_signed f_Reader_reached f_Reader_simple f_Reader_arguments f_read_value f__law_tape f__law_take f__law_is_integer f__law_same_items f__law_same f__law_put f__law_gap f__law_token_out f__law_some_name f__law_tree f__law_leaf f__law_call f__law_reach f__law_prefix f__law_binary f__law_wide f_law f_Reader e_ServerError e_SyntaxProblem : Addr} (X : K.In h) (G : h.Ns mainGlobals mg) (hfa : mg "law" = some (.ref fa))
    {od__wall od_SyntaxProblem___init__ od_run_end od_token_at od_tokens_between od_tokens od_number_value od_Reader___init__ od_Reader_place od_Reader_need od_Reader_sort_now od_Reader_fixed od_Reader_last_end od_Reader_take od_Reader_try_take od_Reader_mark od_Reader_marks od_Reader_finish od_Reader_field od_Reader_fields od_Reader_bound od_Reader_begin od_Reader_value od_Reader_let_value od_Reader_if_value od_Reader_loop_value od_Reader_either od_Reader_negated od_Reader_compared od_Reader_chain od_Reader_signed od_Reader_reached od_Reader_simple od_Reader_arguments od_read_value od__law_tape od__law_take od__law_is_integer od__law_same_items od__law_same od__law_put od__law_gap od__law_token_out od__law_some_name od__law_tree od__law_leaf od__law_call od__law_reach od__law_prefix od__law_binary od__law_wide od_law : Option Addr} {an__wall an_SyntaxProblem___init__ an_run_end an_token_at an_tokens_between an_tokens an_number_value an_Reader___init__ an_Reader_place an_Reader_need an_Reader_sort_now an_Reader_fixed an_Reader_last_end an_Reader_take an_Reader_try_take an_Reader_mark an_Reader_marks an_Reader_finish an_Reader_field an_Reader_fields an_Reader_bound an_Reader_begin an_Reader_value an_Reader_let_value an_Reader_if_value an_Reader_loop_value an_Reader_either an_Reader_negated an_Reader_compared an_Reader_chain an_Reader_signed an_Reader_reached an_Reader_simple an_Reader_arguments an_read_value an__law_tape an__law_take an__law_is_integer an__law_same_items an__law_same an__law_put an__law_gap an__law_token_out an__law_some_name an__law_tree an__law_leaf an__law_call an__law_reach an__law_prefix an__law_binary an__law_wide an_law : Option Addr} {sl__wall sl_SyntaxProblem___init__ sl_run_end sl_token_at sl_tokens_between sl_tokens sl_number_value sl_Reader___init__ sl_Reader_place sl_Reader_need sl_Reader_sort_now sl_Reader_fixed sl_Reader_last_end sl_Reader_take sl_Reader_try_take sl_Reader_mark sl_Reader_marks sl_Reader_finish sl_Reader_field sl_Reader_fields sl_Reader_bound sl_Reader_begin sl_Reader_value sl_Reader_let_value sl_Reader_if_value sl_Reader_loop_value sl_Reader_either sl_Reader_negated sl_Reader_compared sl_Reader_chain sl_Reader_signed sl_Reader_reached sl_Reader_simple sl_Reader_arguments sl_read_value sl__law_tape sl__law_take sl__law_is_integer sl__law_same_items sl__law_same sl__law_put sl__law_gap sl__law_token_out sl__law_some_name sl__law_tree sl__law_leaf sl__law_call sl__law_reach sl__law_prefix sl__law_binary sl__law_wide sl_law : Array (Option Value)} {oc__wall oc_SyntaxProblem___init__ oc_run_end oc_token_at oc_tokens_between oc_tokens oc_number_value oc_Reader___init__ oc_Reader_place oc_Reader_need oc_Reader_sort_now oc_Reader_fixed oc_Reader_last_end oc_Reader_take oc_Reader_try_take oc_Reader_mark oc_Reader_marks oc_Reader_finish oc_Reader_field oc_Reader_fields oc_Reader_bound oc_Reader_begin oc_Reader_value oc_Reader_let_value oc_Reader_if_value oc_Reader_loop_value oc_Reader_either oc_Reader_negated oc_Reader_compared oc_Reader_chain oc_Reader_signed oc_Reader_reached oc_Reader_simple oc_Reader_arguments oc_read_value oc__law_tape oc__law_take oc__law_is_integer oc__law_same_items oc__law_same oc__law_put oc__law_gap oc__law_token_out oc__law_some_name oc__law_tree oc__law_leaf oc__law_call oc__law_reach oc__law_prefix oc__law_binary oc__law_wide oc_law : Value} {kV__wall kV_SyntaxProblem___init__ kV_run_end kV_token_at kV_tokens_between kV_tokens kV_number_value kV_Reader___init__ kV_Reader_place kV_Reader_need kV_Reader_sort_now kV_Reader_fixed kV_Reader_last_end kV_Reader_take kV_Reader_try_take kV_Reader_mark kV_Reader_marks kV_Reader_finish kV_Reader_field kV_Reader_fields kV_Reader_bound kV_Reader_begin kV_Reader_value kV_Reader_let_value kV_Reader_if_value kV_Reader_loop_value kV_Reader_either kV_Reader_negated kV_Reader_compared kV_Reader_chain kV_Reader_signed kV_Reader_reached kV_Reader_simple kV_Reader_arguments kV_read_value kV__law_tape kV__law_take kV__law_is_integer kV__law_same_items kV__law_same kV__law_put kV__law_gap kV__law_token_out kV__law_some_name kV__law_tree kV__law_leaf kV__law_call kV__law_reach kV__law_prefix kV__law_binary kV__law_wide kV_law : Value} {dc__wall dc_SyntaxProblem___init__ dc_run_end dc_token_at dc_tokens_between dc_tokens dc_number_value dc_Reader___init__ dc_Reader_place dc_Reader_need dc_Reader_sort_now dc_Reader_fixed dc_Reader_last_end dc_Reader_take dc_Reader_try_take dc_Reader_mark dc_Reader_marks dc_Reader_finish dc_Reader_field dc_Reader_fields dc_Reader_bound dc_Reader_begin dc_Reader_value dc_Reader_let_value dc_Reader_if_value dc_Reader_loop_value dc_Reader_either dc_Reader_negated dc_Reader_compared dc_Reader_chain dc_Reader_signed dc_Reader_reached dc_Reader_simple dc_Reader_arguments dc_read_value dc__law_tape dc__law_take dc__law_is_integer dc__law_same_items dc__law_same dc__law_put dc__law_gap dc__law_token_out dc__law_some_name dc__law_tree dc__law_leaf dc__law_call dc__law_reach dc__law_prefix dc__law_binary dc__law_wide dc_law : Value} {pm__wall pm_SyntaxProblem___init__ pm_run_end pm_token_at pm_tokens_between pm_tokens pm_number_value pm_Reader___init__ pm_Reader_place pm_Reader_need pm_Reader_sort_now pm_Reader_fixed pm_Reader_last_end pm_Reader_take pm_Reader_try_take pm_Reader_mark pm_Reader_marks pm_Reader_finish pm_Reader_field pm_Reader_fields pm_Reader_bound pm_Reader_begin pm_Reader_value pm_Reader_let_value pm_Reader_if_value pm_Reader_loop_value pm_Reader_either pm_Reader_negated pm_Reader_compared pm_Reader_chain pm_Reader_signed pm_Reader_reached pm_Reader_simple pm_Reader_arguments pm_read_value pm__law_tape pm__law_take pm__law_is_integer pm__law_same_items pm__law_same pm__law_put pm__law_gap pm__law_token_out pm__law_some_name pm__law_tree pm__law_leaf pm__law_call pm__law_reach pm__law_prefix pm__law_binary pm__law_wide pm_law : Value} {cd__wall cd_SyntaxProblem___init__ cd_run_end cd_token_at cd_tokens_between cd_tokens cd_number_value cd_Reader___init__ cd_Reader_place cd_Reader_need cd_Reader_sort_now cd_Reader_fixed cd_Reader_last_end cd_Reader_take cd_Reader_try_take cd_Reader_mark cd_Reader_marks cd_Reader_finish cd_Reader_field cd_Reader_fields cd_Reader_bound cd_Reader_begin cd_Reader_value cd_Reader_let_value cd_Reader_if_value cd_Reader_loop_value cd_Reader_either cd_Reader_negated cd_Reader_compared cd_Reader_chain cd_Reader_signed cd_Reader_reached cd_Reader_simple cd_Reader_arguments cd_read_value cd__law_tape cd__law_take cd__law_is_integer cd__law_same_items cd__law_same cd__law_put cd__law_gap cd__law_token_out cd__law_some_name cd__law_tree cd__law_leaf cd__law_call cd__law_reach cd__law_prefix cd__law_binary cd__law_wide cd_law : Value} {ct__wall ct_SyntaxProblem___init__ ct_run_end ct_token_at ct_tokens_between ct_tokens ct_number_value ct_Reader___init__ ct_Reader_place ct_Reader_need ct_Reader_sort_now ct_Reader_fixed ct_Reader_last_end ct_Reader_take ct_Reader_try_take ct_Reader_mark ct_Reader_marks ct_Reader_finish ct_Reader_field ct_Reader_fields ct_Reader_bound ct_Reader_begin ct_Reader_value ct_Reader_let_value ct_Reader_if_value ct_Reader_loop_value ct_Reader_either ct_Reader_negated ct_Reader_compared ct_Reader_chain ct_Reader_signed ct_Reader_reached ct_Reader_simple ct_Reader_arguments ct_read_value ct__law_tape ct__law_take ct__law_is_integer ct__law_same_items ct__law_same ct__law_put ct__law_gap ct__law_token_out ct__law_some_name ct__law_tree ct__law_leaf ct__law_call ct__law_reach ct__law_prefix ct__law_binary ct__law_wide ct_law : Value}
    (g_Reader : PySem.W.nsIn K mainGlobals "Reader" = some (some (.ref f_Reader))) (pg_Reader : PySem.W.plainGet K f_Reader Str.empty = true) (hd_Reader : PySem.W.hasDictIn K f_Reader = true) (po_Reader : PySem.W.plainOver K f_Reader = true) (sa_Reader : PySem.W.findIn K (.ref f_Reader) "__setattr__" = some (some (.builtin "object.__setattr__"))) (mk_Reader : PySem.W.makesIn K f_Reader = true) (kc_Reader : PySem.W.keepIn K (.ref f_Reader) = true) (no_Reader_text : PySem.W.findIn K (.ref f_Reader) "text" = some none) (no_Reader_tokens : PySem.W.findIn K (.ref f_Reader) "tokens" = some none) (no_Reader_at : PySem.W.findIn K (.ref f_Reader) "at" = some none) (no_Reader_depth : PySem.W.findIn K (.ref f_Reader) "depth" = some none) (i_ServerError : PySem.W.nsIn K mainGlobals "ServerError" = some (some (.ref e_ServerError))) (x_ServerError : PySem.W.excIn K e_ServerError [.type "ValueError", .type "Exception", .type "BaseException", .type "object"] "ValueError.__new__" = true) (k_ServerError : PySem.W.keepIn K (.ref e_ServerError) = true) (b_ServerError : PySem.W.subIn K (.ref e_ServerError) (.type "BaseException") = some true) (t_ServerError : PySem.W.typeIn K (.ref e_ServerError) = some (.type "type")) (d_ServerError : PySem.W.hasDictIn K e_ServerError = true) (i_SyntaxProblem : PySem.W.nsIn K mainGlobals "SyntaxProblem" = some (some (.ref e_SyntaxProblem))) {nm_SyntaxProblem q_SyntaxProblem : Str} {N_SyntaxProblem : Addr} {bs_SyntaxProblem : List Value} {sn_SyntaxProblem : List Str} {sub_SyntaxProblem : List Value} {ab_SyntaxProblem : Bool} {col_SyntaxProblem : Option Bool} {dd_SyntaxProblem : Option Addr} {m0_SyntaxProblem m1_SyntaxProblem m2_SyntaxProblem m3_SyntaxProblem m5_SyntaxProblem : Option Value} (xl_SyntaxProblem : K.lookup e_SyntaxProblem = some (excClassObj nm_SyntaxProblem q_SyntaxProblem e_SyntaxProblem N_SyntaxProblem bs_SyntaxProblem [.ref e_ServerError, .type "ValueError", .type "Exception", .type "BaseException", .type "object"] true sn_SyntaxProblem sub_SyntaxProblem ab_SyntaxProblem col_SyntaxProblem dd_SyntaxProblem m0_SyntaxProblem m1_SyntaxProblem m2_SyntaxProblem m3_SyntaxProblem m5_SyntaxProblem "ValueError.__new__")) (sa_SyntaxProblem : PySem.W.findIn K (.ref e_SyntaxProblem) "__setattr__" = some (some (.builtin "object.__setattr__"))) (k_SyntaxProblem : PySem.W.keepIn K (.ref e_SyntaxProblem) = true) (b_SyntaxProblem : PySem.W.subIn K (.ref e_SyntaxProblem) (.type "BaseException") = some true) (t_SyntaxProblem : PySem.W.typeIn K (.ref e_SyntaxProblem) = some (.type "type")) (d_SyntaxProblem : PySem.W.hasDictIn K e_SyntaxProblem = true) (no_SyntaxProblem_start : PySem.W.findIn K (.ref e_SyntaxProblem) "start" = some none) (no_SyntaxProblem_end : PySem.W.findIn K (.ref e_SyntaxProblem) "end" = some none)
    (a__wall : PySem.W.nsIn K mainGlobals "_wall" = some (some (.ref f__wall))) (l__wall : K.lookup f__wall = some ⟨oc__wall, od__wall, .func (PySem.W.fnOf "_wall" "_wall" (defArgs s__wall) (defBody s__wall) (defScope s__wall) .none kV__wall dc__wall pm__wall an__wall cd__wall ct__wall), sl__wall⟩) (c__wall : PySem.W.codeIn K cd__wall "_wall" = true) (k__wall : PySem.W.keepIn K (.ref f__wall) = true)
    (a_SyntaxProblem___init__ : PySem.W.findIn K (.ref e_SyntaxProblem) "__init__" = some (some (.ref f_SyntaxProblem___init__))) (i_SyntaxProblem___init__ : PySem.W.typeIn K (.ref f_SyntaxProblem___init__) = some (.type "function")) (l_SyntaxProblem___init__ : K.lookup f_SyntaxProblem___init__ = some ⟨oc_SyntaxProblem___init__, od_SyntaxProblem___init__, .func (PySem.W.fnOf "__init__" "SyntaxProblem.__init__" (defArgs s_SyntaxProblem___init__) (defBody s_SyntaxProblem___init__) (defScope s_SyntaxProblem___init__) .none kV_SyntaxProblem___init__ dc_SyntaxProblem___init__ pm_SyntaxProblem___init__ an_SyntaxProblem___init__ cd_SyntaxProblem___init__ ct_SyntaxProblem___init__), sl_SyntaxProblem___init__⟩) (c_SyntaxProblem___init__ : PySem.W.codeIn K cd_SyntaxProblem___init__ "SyntaxProblem.__init__" = true) (k_SyntaxProblem___init__ : PySem.W.keepIn K (.ref f_SyntaxProblem___init__) = true)
    (a_run_end : PySem.W.nsIn K mainGlobals "run_end" = some (some (.ref f_run_end))) (l_run_end : K.lookup f_run_end = some ⟨oc_run_end, od_run_end, .func (PySem.W.fnOf "run_end" "run_end" (defArgs s_run_end) (defBody s_run_end) (defScope s_run_end) .none kV_run_end dc_run_end pm_run_end an_run_end cd_run_end ct_run_end), sl_run_end⟩) (c_run_end : PySem.W.codeIn K cd_run_end "run_end" = true) (k_run_end : PySem.W.keepIn K (.ref f_run_end) = true)
    (a_token_at : PySem.W.nsIn K mainGlobals "token_at" = some (some (.ref f_token_at))) (l_token_at : K.lookup f_token_at = some ⟨oc_token_at, od_token_at, .func (PySem.W.fnOf "token_at" "token_at" (defArgs s_token_at) (defBody s_token_at) (defScope s_token_at) .none kV_token_at dc_token_at pm_token_at an_token_at cd_token_at ct_token_at), sl_token_at⟩) (c_token_at : PySem.W.codeIn K cd_token_at "token_at" = true) (k_token_at : PySem.W.keepIn K (.ref f_token_at) = true)
    (a_tokens_between : PySem.W.nsIn K mainGlobals "tokens_between" = some (some (.ref f_tokens_between))) (l_tokens_between : K.lookup f_tokens_between = some ⟨oc_tokens_between, od_tokens_between, .func (PySem.W.fnOf "tokens_between" "tokens_between" (defArgs s_tokens_between) (defBody s_tokens_between) (defScope s_tokens_between) .none kV_tokens_between dc_tokens_between pm_tokens_between an_tokens_between cd_tokens_between ct_tokens_between), sl_tokens_between⟩) (c_tokens_between : PySem.W.codeIn K cd_tokens_between "tokens_between" = true) (k_tokens_between : PySem.W.keepIn K (.ref f_tokens_between) = true)
    (a_tokens : PySem.W.nsIn K mainGlobals "tokens" = some (some (.ref f_tokens))) (l_tokens : K.lookup f_tokens = some ⟨oc_tokens, od_tokens, .func (PySem.W.fnOf "tokens" "tokens" (defArgs s_tokens) (defBody s_tokens) (defScope s_tokens) .none kV_tokens dc_tokens pm_tokens an_tokens cd_tokens ct_tokens), sl_tokens⟩) (c_tokens : PySem.W.codeIn K cd_tokens "tokens" = true) (k_tokens : PySem.W.keepIn K (.ref f_tokens) = true)
    (a_number_value : PySem.W.nsIn K mainGlobals "number_value" = some (some (.ref f_number_value))) (l_number_value : K.lookup f_number_value = some ⟨oc_number_value, od_number_value, .func (PySem.W.fnOf "number_value" "number_value" (defArgs s_number_value) (defBody s_number_value) (defScope s_number_value) .none kV_number_value dc_number_value pm_number_value an_number_value cd_number_value ct_number_value), sl_number_value⟩) (c_number_value : PySem.W.codeIn K cd_number_value "number_value" = true) (k_number_value : PySem.W.keepIn K (.ref f_number_value) = true)
    (a_Reader___init__ : PySem.W.findIn K (.ref f_Reader) "__init__" = some (some (.ref f_Reader___init__))) (i_Reader___init__ : PySem.W.isFn K (.ref f_Reader___init__) = true) (l_Reader___init__ : K.lookup f_Reader___init__ = some ⟨oc_Reader___init__, od_Reader___init__, .func (PySem.W.fnOf "__init__" "Reader.__init__" (defArgs s_Reader___init__) (defBody s_Reader___init__) (defScope s_Reader___init__) .none kV_Reader___init__ dc_Reader___init__ pm_Reader___init__ an_Reader___init__ cd_Reader___init__ ct_Reader___init__), sl_Reader___init__⟩) (c_Reader___init__ : PySem.W.codeIn K cd_Reader___init__ "Reader.__init__" = true) (k_Reader___init__ : PySem.W.keepIn K (.ref f_Reader___init__) = true)
    (a_Reader_place : PySem.W.findIn K (.ref f_Reader) "place" = some (some (.ref f_Reader_place))) (i_Reader_place : PySem.W.isFn K (.ref f_Reader_place) = true) (l_Reader_place : K.lookup f_Reader_place = some ⟨oc_Reader_place, od_Reader_place, .func (PySem.W.fnOf "place" "Reader.place" (defArgs s_Reader_place) (defBody s_Reader_place) (defScope s_Reader_place) .none kV_Reader_place dc_Reader_place pm_Reader_place an_Reader_place cd_Reader_place ct_Reader_place), sl_Reader_place⟩) (c_Reader_place : PySem.W.codeIn K cd_Reader_place "Reader.place" = true) (k_Reader_place : PySem.W.keepIn K (.ref f_Reader_place) = true)
    (a_Reader_need : PySem.W.findIn K (.ref f_Reader) "need" = some (some (.ref f_Reader_need))) (i_Reader_need : PySem.W.isFn K (.ref f_Reader_need) = true) (l_Reader_need : K.lookup f_Reader_need = some ⟨oc_Reader_need, od_Reader_need, .func (PySem.W.fnOf "need" "Reader.need" (defArgs s_Reader_need) (defBody s_Reader_need) (defScope s_Reader_need) .none kV_Reader_need dc_Reader_need pm_Reader_need an_Reader_need cd_Reader_need ct_Reader_need), sl_Reader_need⟩) (c_Reader_need : PySem.W.codeIn K cd_Reader_need "Reader.need" = true) (k_Reader_need : PySem.W.keepIn K (.ref f_Reader_need) = true)
    (a_Reader_sort_now : PySem.W.findIn K (.ref f_Reader) "sort_now" = some (some (.ref f_Reader_sort_now))) (i_Reader_sort_now : PySem.W.isFn K (.ref f_Reader_sort_now) = true) (l_Reader_sort_now : K.lookup f_Reader_sort_now = some ⟨oc_Reader_sort_now, od_Reader_sort_now, .func (PySem.W.fnOf "sort_now" "Reader.sort_now" (defArgs s_Reader_sort_now) (defBody s_Reader_sort_now) (defScope s_Reader_sort_now) .none kV_Reader_sort_now dc_Reader_sort_now pm_Reader_sort_now an_Reader_sort_now cd_Reader_sort_now ct_Reader_sort_now), sl_Reader_sort_now⟩) (c_Reader_sort_now : PySem.W.codeIn K cd_Reader_sort_now "Reader.sort_now" = true) (k_Reader_sort_now : PySem.W.keepIn K (.ref f_Reader_sort_now) = true)
    (a_Reader_fixed : PySem.W.findIn K (.ref f_Reader) "fixed" = some (some (.ref f_Reader_fixed))) (i_Reader_fixed : PySem.W.isFn K (.ref f_Reader_fixed) = true) (l_Reader_fixed : K.lookup f_Reader_fixed = some ⟨oc_Reader_fixed, od_Reader_fixed, .func (PySem.W.fnOf "fixed" "Reader.fixed" (defArgs s_Reader_fixed) (defBody s_Reader_fixed) (defScope s_Reader_fixed) .none kV_Reader_fixed dc_Reader_fixed pm_Reader_fixed an_Reader_fixed cd_Reader_fixed ct_Reader_fixed), sl_Reader_fixed⟩) (c_Reader_fixed : PySem.W.codeIn K cd_Reader_fixed "Reader.fixed" = true) (k_Reader_fixed : PySem.W.keepIn K (.ref f_Reader_fixed) = true)
    (a_Reader_last_end : PySem.W.findIn K (.ref f_Reader) "last_end" = some (some (.ref f_Reader_last_end))) (i_Reader_last_end : PySem.W.isFn K (.ref f_Reader_last_end) = true) (l_Reader_last_end : K.lookup f_Reader_last_end = some ⟨oc_Reader_last_end, od_Reader_last_end, .func (PySem.W.fnOf "last_end" "Reader.last_end" (defArgs s_Reader_last_end) (defBody s_Reader_last_end) (defScope s_Reader_last_end) .none kV_Reader_last_end dc_Reader_last_end pm_Reader_last_end an_Reader_last_end cd_Reader_last_end ct_Reader_last_end), sl_Reader_last_end⟩) (c_Reader_last_end : PySem.W.codeIn K cd_Reader_last_end "Reader.last_end" = true) (k_Reader_last_end : PySem.W.keepIn K (.ref f_Reader_last_end) = true)
    (a_Reader_take : PySem.W.findIn K (.ref f_Reader) "take" = some (some (.ref f_Reader_take))) (i_Reader_take : PySem.W.isFn K (.ref f_Reader_take) = true) (l_Reader_take : K.lookup f_Reader_take = some ⟨oc_Reader_take, od_Reader_take, .func (PySem.W.fnOf "take" "Reader.take" (defArgs s_Reader_take) (defBody s_Reader_take) (defScope s_Reader_take) .none kV_Reader_take dc_Reader_take pm_Reader_take an_Reader_take cd_Reader_take ct_Reader_take), sl_Reader_take⟩) (c_Reader_take : PySem.W.codeIn K cd_Reader_take "Reader.take" = true) (k_Reader_take : PySem.W.keepIn K (.ref f_Reader_take) = true)
    (a_Reader_try_take : PySem.W.findIn K (.ref f_Reader) "try_take" = some (some (.ref f_Reader_try_take))) (i_Reader_try_take : PySem.W.isFn K (.ref f_Reader_try_take) = true) (l_Reader_try_take : K.lookup f_Reader_try_take = some ⟨oc_Reader_try_take, od_Reader_try_take, .func (PySem.W.fnOf "try_take" "Reader.try_take" (defArgs s_Reader_try_take) (defBody s_Reader_try_take) (defScope s_Reader_try_take) .none kV_Reader_try_take dc_Reader_try_take pm_Reader_try_take an_Reader_try_take cd_Reader_try_take ct_Reader_try_take), sl_Reader_try_take⟩) (c_Reader_try_take : PySem.W.codeIn K cd_Reader_try_take "Reader.try_take" = true) (k_Reader_try_take : PySem.W.keepIn K (.ref f_Reader_try_take) = true)
    (a_Reader_mark : PySem.W.findIn K (.ref f_Reader) "mark" = some (some (.ref f_Reader_mark))) (i_Reader_mark : PySem.W.isFn K (.ref f_Reader_mark) = true) (l_Reader_mark : K.lookup f_Reader_mark = some ⟨oc_Reader_mark, od_Reader_mark, .func (PySem.W.fnOf "mark" "Reader.mark" (defArgs s_Reader_mark) (defBody s_Reader_mark) (defScope s_Reader_mark) .none kV_Reader_mark dc_Reader_mark pm_Reader_mark an_Reader_mark cd_Reader_mark ct_Reader_mark), sl_Reader_mark⟩) (c_Reader_mark : PySem.W.codeIn K cd_Reader_mark "Reader.mark" = true) (k_Reader_mark : PySem.W.keepIn K (.ref f_Reader_mark) = true)
    (a_Reader_marks : PySem.W.findIn K (.ref f_Reader) "marks" = some (some (.ref f_Reader_marks))) (i_Reader_marks : PySem.W.isFn K (.ref f_Reader_marks) = true) (l_Reader_marks : K.lookup f_Reader_marks = some ⟨oc_Reader_marks, od_Reader_marks, .func (PySem.W.fnOf "marks" "Reader.marks" (defArgs s_Reader_marks) (defBody s_Reader_marks) (defScope s_Reader_marks) .none kV_Reader_marks dc_Reader_marks pm_Reader_marks an_Reader_marks cd_Reader_marks ct_Reader_marks), sl_Reader_marks⟩) (c_Reader_marks : PySem.W.codeIn K cd_Reader_marks "Reader.marks" = true) (k_Reader_marks : PySem.W.keepIn K (.ref f_Reader_marks) = true)
    (a_Reader_finish : PySem.W.findIn K (.ref f_Reader) "finish" = some (some (.ref f_Reader_finish))) (i_Reader_finish : PySem.W.isFn K (.ref f_Reader_finish) = true) (l_Reader_finish : K.lookup f_Reader_finish = some ⟨oc_Reader_finish, od_Reader_finish, .func (PySem.W.fnOf "finish" "Reader.finish" (defArgs s_Reader_finish) (defBody s_Reader_finish) (defScope s_Reader_finish) .none kV_Reader_finish dc_Reader_finish pm_Reader_finish an_Reader_finish cd_Reader_finish ct_Reader_finish), sl_Reader_finish⟩) (c_Reader_finish : PySem.W.codeIn K cd_Reader_finish "Reader.finish" = true) (k_Reader_finish : PySem.W.keepIn K (.ref f_Reader_finish) = true)
    (a_Reader_field : PySem.W.findIn K (.ref f_Reader) "field" = some (some (.ref f_Reader_field))) (i_Reader_field : PySem.W.isFn K (.ref f_Reader_field) = true) (l_Reader_field : K.lookup f_Reader_field = some ⟨oc_Reader_field, od_Reader_field, .func (PySem.W.fnOf "field" "Reader.field" (defArgs s_Reader_field) (defBody s_Reader_field) (defScope s_Reader_field) .none kV_Reader_field dc_Reader_field pm_Reader_field an_Reader_field cd_Reader_field ct_Reader_field), sl_Reader_field⟩) (c_Reader_field : PySem.W.codeIn K cd_Reader_field "Reader.field" = true) (k_Reader_field : PySem.W.keepIn K (.ref f_Reader_field) = true)
    (a_Reader_fields : PySem.W.findIn K (.ref f_Reader) "fields" = some (some (.ref f_Reader_fields))) (i_Reader_fields : PySem.W.isFn K (.ref f_Reader_fields) = true) (l_Reader_fields : K.lookup f_Reader_fields = some ⟨oc_Reader_fields, od_Reader_fields, .func (PySem.W.fnOf "fields" "Reader.fields" (defArgs s_Reader_fields) (defBody s_Reader_fields) (defScope s_Reader_fields) .none kV_Reader_fields dc_Reader_fields pm_Reader_fields an_Reader_fields cd_Reader_fields ct_Reader_fields), sl_Reader_fields⟩) (c_Reader_fields : PySem.W.codeIn K cd_Reader_fields "Reader.fields" = true) (k_Reader_fields : PySem.W.keepIn K (.ref f_Reader_fields) = true)
    (a_Reader_bound : PySem.W.findIn K (.ref f_Reader) "bound" = some (some (.ref f_Reader_bound))) (i_Reader_bound : PySem.W.isFn K (.ref f_Reader_bound) = true) (l_Reader_bound : K.lookup f_Reader_bound = some ⟨oc_Reader_bound, od_Reader_bound, .func (PySem.W.fnOf "bound" "Reader.bound" (defArgs s_Reader_bound) (defBody s_Reader_bound) (defScope s_Reader_bound) .none kV_Reader_bound dc_Reader_bound pm_Reader_bound an_Reader_bound cd_Reader_bound ct_Reader_bound), sl_Reader_bound⟩) (c_Reader_bound : PySem.W.codeIn K cd_Reader_bound "Reader.bound" = true) (k_Reader_bound : PySem.W.keepIn K (.ref f_Reader_bound) = true)
    (a_Reader_begin : PySem.W.findIn K (.ref f_Reader) "begin" = some (some (.ref f_Reader_begin))) (i_Reader_begin : PySem.W.isFn K (.ref f_Reader_begin) = true) (l_Reader_begin : K.lookup f_Reader_begin = some ⟨oc_Reader_begin, od_Reader_begin, .func (PySem.W.fnOf "begin" "Reader.begin" (defArgs s_Reader_begin) (defBody s_Reader_begin) (defScope s_Reader_begin) .none kV_Reader_begin dc_Reader_begin pm_Reader_begin an_Reader_begin cd_Reader_begin ct_Reader_begin), sl_Reader_begin⟩) (c_Reader_begin : PySem.W.codeIn K cd_Reader_begin "Reader.begin" = true) (k_Reader_begin : PySem.W.keepIn K (.ref f_Reader_begin) = true)
    (a_Reader_value : PySem.W.findIn K (.ref f_Reader) "value" = some (some (.ref f_Reader_value))) (i_Reader_value : PySem.W.isFn K (.ref f_Reader_value) = true) (l_Reader_value : K.lookup f_Reader_value = some ⟨oc_Reader_value, od_Reader_value, .func (PySem.W.fnOf "value" "Reader.value" (defArgs s_Reader_value) (defBody s_Reader_value) (defScope s_Reader_value) .none kV_Reader_value dc_Reader_value pm_Reader_value an_Reader_value cd_Reader_value ct_Reader_value), sl_Reader_value⟩) (c_Reader_value : PySem.W.codeIn K cd_Reader_value "Reader.value" = true) (k_Reader_value : PySem.W.keepIn K (.ref f_Reader_value) = true)
    (a_Reader_let_value : PySem.W.findIn K (.ref f_Reader) "let_value" = some (some (.ref f_Reader_let_value))) (i_Reader_let_value : PySem.W.isFn K (.ref f_Reader_let_value) = true) (l_Reader_let_value : K.lookup f_Reader_let_value = some ⟨oc_Reader_let_value, od_Reader_let_value, .func (PySem.W.fnOf "let_value" "Reader.let_value" (defArgs s_Reader_let_value) (defBody s_Reader_let_value) (defScope s_Reader_let_value) .none kV_Reader_let_value dc_Reader_let_value pm_Reader_let_value an_Reader_let_value cd_Reader_let_value ct_Reader_let_value), sl_Reader_let_value⟩) (c_Reader_let_value : PySem.W.codeIn K cd_Reader_let_value "Reader.let_value" = true) (k_Reader_let_value : PySem.W.keepIn K (.ref f_Reader_let_value) = true)
    (a_Reader_if_value : PySem.W.findIn K (.ref f_Reader) "if_value" = some (some (.ref f_Reader_if_value))) (i_Reader_if_value : PySem.W.isFn K (.ref f_Reader_if_value) = true) (l_Reader_if_value : K.lookup f_Reader_if_value = some ⟨oc_Reader_if_value, od_Reader_if_value, .func (PySem.W.fnOf "if_value" "Reader.if_value" (defArgs s_Reader_if_value) (defBody s_Reader_if_value) (defScope s_Reader_if_value) .none kV_Reader_if_value dc_Reader_if_value pm_Reader_if_value an_Reader_if_value cd_Reader_if_value ct_Reader_if_value), sl_Reader_if_value⟩) (c_Reader_if_value : PySem.W.codeIn K cd_Reader_if_value "Reader.if_value" = true) (k_Reader_if_value : PySem.W.keepIn K (.ref f_Reader_if_value) = true)
    (a_Reader_loop_value : PySem.W.findIn K (.ref f_Reader) "loop_value" = some (some (.ref f_Reader_loop_value))) (i_Reader_loop_value : PySem.W.isFn K (.ref f_Reader_loop_value) = true) (l_Reader_loop_value : K.lookup f_Reader_loop_value = some ⟨oc_Reader_loop_value, od_Reader_loop_value, .func (PySem.W.fnOf "loop_value" "Reader.loop_value" (defArgs s_Reader_loop_value) (defBody s_Reader_loop_value) (defScope s_Reader_loop_value) .none kV_Reader_loop_value dc_Reader_loop_value pm_Reader_loop_value an_Reader_loop_value cd_Reader_loop_value ct_Reader_loop_value), sl_Reader_loop_value⟩) (c_Reader_loop_value : PySem.W.codeIn K cd_Reader_loop_value "Reader.loop_value" = true) (k_Reader_loop_value : PySem.W.keepIn K (.ref f_Reader_loop_value) = true)
    (a_Reader_either : PySem.W.findIn K (.ref f_Reader) "either" = some (some (.ref f_Reader_either))) (i_Reader_either : PySem.W.isFn K (.ref f_Reader_either) = true) (l_Reader_either : K.lookup f_Reader_either = some ⟨oc_Reader_either, od_Reader_either, .func (PySem.W.fnOf "either" "Reader.either" (defArgs s_Reader_either) (defBody s_Reader_either) (defScope s_Reader_either) .none kV_Reader_either dc_Reader_either pm_Reader_either an_Reader_either cd_Reader_either ct_Reader_either), sl_Reader_either⟩) (c_Reader_either : PySem.W.codeIn K cd_Reader_either "Reader.either" = true) (k_Reader_either : PySem.W.keepIn K (.ref f_Reader_either) = true)
    (a_Reader_negated : PySem.W.findIn K (.ref f_Reader) "negated" = some (some (.ref f_Reader_negated))) (i_Reader_negated : PySem.W.isFn K (.ref f_Reader_negated) = true) (l_Reader_negated : K.lookup f_Reader_negated = some ⟨oc_Reader_negated, od_Reader_negated, .func (PySem.W.fnOf "negated" "Reader.negated" (defArgs s_Reader_negated) (defBody s_Reader_negated) (defScope s_Reader_negated) .none kV_Reader_negated dc_Reader_negated pm_Reader_negated an_Reader_negated cd_Reader_negated ct_Reader_negated), sl_Reader_negated⟩) (c_Reader_negated : PySem.W.codeIn K cd_Reader_negated "Reader.negated" = true) (k_Reader_negated : PySem.W.keepIn K (.ref f_Reader_negated) = true)
    (a_Reader_compared : PySem.W.findIn K (.ref f_Reader) "compared" = some (some (.ref f_Reader_compared))) (i_Reader_compared : PySem.W.isFn K (.ref f_Reader_compared) = true) (l_Reader_compared : K.lookup f_Reader_compared = some ⟨oc_Reader_compared, od_Reader_compared, .func (PySem.W.fnOf "compared" "Reader.compared" (defArgs s_Reader_compared) (defBody s_Reader_compared) (defScope s_Reader_compared) .none kV_Reader_compared dc_Reader_compared pm_Reader_compared an_Reader_compared cd_Reader_compared ct_Reader_compared), sl_Reader_compared⟩) (c_Reader_compared : PySem.W.codeIn K cd_Reader_compared "Reader.compared" = true) (k_Reader_compared : PySem.W.keepIn K (.ref f_Reader_compared) = true)
    (a_Reader_chain : PySem.W.findIn K (.ref f_Reader) "chain" = some (some (.ref f_Reader_chain))) (i_Reader_chain : PySem.W.isFn K (.ref f_Reader_chain) = true) (l_Reader_chain : K.lookup f_Reader_chain = some ⟨oc_Reader_chain, od_Reader_chain, .func (PySem.W.fnOf "chain" "Reader.chain" (defArgs s_Reader_chain) (defBody s_Reader_chain) (defScope s_Reader_chain) .none kV_Reader_chain dc_Reader_chain pm_Reader_chain an_Reader_chain cd_Reader_chain ct_Reader_chain), sl_Reader_chain⟩) (c_Reader_chain : PySem.W.codeIn K cd_Reader_chain "Reader.chain" = true) (k_Reader_chain : PySem.W.keepIn K (.ref f_Reader_chain) = true)
    (a_Reader_signed : PySem.W.findIn K (.ref f_Reader) "signed" = some (some (.ref f_Reader_signed))) (i_Reader_signed : PySem.W.isFn K (.ref f_Reader_signed) = true) (l_Reader_signed : K.lookup f_Reader_signed = some ⟨oc_Reader_signed, od_Reader_signed, .func (PySem.W.fnOf "signed" "Reader.signed" (defArgs s_Reader_signed) (defBody s_Reader_signed) (defScope s_Reader_signed) .none kV_Reader_signed dc_Reader_signed pm_Reader_signed an_Reader_signed cd_Reader_signed ct_Reader_signed), sl_Reader_signed⟩) (c_Reader_signed : PySem.W.codeIn K cd_Reader_signed "Reader.signed" = true) (k_Reader_signed : PySem.W.keepIn K (.ref f_Reader_signed) = true)
    (a_Reader_reached : PySem.W.findIn K (.ref f_Reader) "reached" = some (some (.ref f_Reader_reached))) (i_Reader_reached : PySem.W.isFn K (.ref f_Reader_reached) = true) (l_Reader_reached : K.lookup f_Reader_reached = some ⟨oc_Reader_reached, od_Reader_reached, .func (PySem.W.fnOf "reached" "Reader.reached" (defArgs s_Reader_reached) (defBody s_Reader_reached) (defScope s_Reader_reached) .none kV_Reader_reached dc_Reader_reached pm_Reader_reached an_Reader_reached cd_Reader_reached ct_Reader_reached), sl_Reader_reached⟩) (c_Reader_reached : PySem.W.codeIn K cd_Reader_reached "Reader.reached" = true) (k_Reader_reached : PySem.W.keepIn K (.ref f_Reader_reached) = true)
    (a_Reader_simple : PySem.W.findIn K (.ref f_Reader) "simple" = some (some (.ref f_Reader_simple))) (i_Reader_simple : PySem.W.isFn K (.ref f_Reader_simple) = true) (l_Reader_simple : K.lookup f_Reader_simple = some ⟨oc_Reader_simple, od_Reader_simple, .func (PySem.W.fnOf "simple" "Reader.simple" (defArgs s_Reader_simple) (defBody s_Reader_simple) (defScope s_Reader_simple) .none kV_Reader_simple dc_Reader_simple pm_Reader_simple an_Reader_simple cd_Reader_simple ct_Reader_simple), sl_Reader_simple⟩) (c_Reader_simple : PySem.W.codeIn K cd_Reader_simple "Reader.simple" = true) (k_Reader_simple : PySem.W.keepIn K (.ref f_Reader_simple) = true)
    (a_Reader_arguments : PySem.W.findIn K (.ref f_Reader) "arguments" = some (some (.ref f_Reader_arguments))) (i_Reader_arguments : PySem.W.isFn K (.ref f_Reader_arguments) = true) (l_Reader_arguments : K.lookup f_Reader_arguments = some ⟨oc_Reader_arguments, od_Reader_arguments, .func (PySem.W.fnOf "arguments" "Reader.arguments" (defArgs s_Reader_arguments) (defBody s_Reader_arguments) (defScope s_Reader_arguments) .none kV_Reader_arguments dc_Reader_arguments pm_Reader_arguments an_Reader_arguments cd_Reader_arguments ct_Reader_arguments), sl_Reader_arguments⟩) (c_Reader_arguments : PySem.W.codeIn K cd_Reader_arguments "Reader.arguments" = true) (k_Reader_arguments : PySem.W.keepIn K (.ref f_Reader_arguments) = true)
    (a_read_value : PySem.W.nsIn K mainGlobals "read_value" = some (some (.ref f_read_value))) (l_read_value : K.lookup f_read_value = some ⟨oc_read_value, od_read_value, .func (PySem.W.fnOf "read_value" "read_value" (defArgs s_read_value) (defBody s_read_value) (defScope s_read_value) .none kV_read_value dc_read_value pm_read_value an_read_value cd_read_value ct_read_value), sl_read_value⟩) (c_read_value : PySem.W.codeIn K cd_read_value "read_value" = true) (k_read_value : PySem.W.keepIn K (.ref f_read_value) = true)
    (a__law_tape : PySem.W.nsIn K mainGlobals "_law_tape" = some (some (.ref f__law_tape))) (l__law_tape : K.lookup f__law_tape = some ⟨oc__law_tape, od__law_tape, .func (PySem.W.fnOf "_law_tape" "_law_tape" (defArgs s__law_tape) (defBody s__law_tape) (defScope s__law_tape) .none kV__law_tape dc__law_tape pm__law_tape an__law_tape cd__law_tape ct__law_tape), sl__law_tape⟩) (c__law_tape : PySem.W.codeIn K cd__law_tape "_law_tape" = true) (k__law_tape : PySem.W.keepIn K (.ref f__law_tape) = true)
    (a__law_take : PySem.W.nsIn K mainGlobals "_law_take" = some (some (.ref f__law_take))) (l__law_take : K.lookup f__law_take = some ⟨oc__law_take, od__law_take, .func (PySem.W.fnOf "_law_take" "_law_take" (defArgs s__law_take) (defBody s__law_take) (defScope s__law_take) .none kV__law_take dc__law_take pm__law_take an__law_take cd__law_take ct__law_take), sl__law_take⟩) (c__law_take : PySem.W.codeIn K cd__law_take "_law_take" = true) (k__law_take : PySem.W.keepIn K (.ref f__law_take) = true)
    (a__law_is_integer : PySem.W.nsIn K mainGlobals "_law_is_integer" = some (some (.ref f__law_is_integer))) (l__law_is_integer : K.lookup f__law_is_integer = some ⟨oc__law_is_integer, od__law_is_integer, .func (PySem.W.fnOf "_law_is_integer" "_law_is_integer" (defArgs s__law_is_integer) (defBody s__law_is_integer) (defScope s__law_is_integer) .none kV__law_is_integer dc__law_is_integer pm__law_is_integer an__law_is_integer cd__law_is_integer ct__law_is_integer), sl__law_is_integer⟩) (c__law_is_integer : PySem.W.codeIn K cd__law_is_integer "_law_is_integer" = true) (k__law_is_integer : PySem.W.keepIn K (.ref f__law_is_integer) = true)
    (a__law_same_items : PySem.W.nsIn K mainGlobals "_law_same_items" = some (some (.ref f__law_same_items))) (l__law_same_items : K.lookup f__law_same_items = some ⟨oc__law_same_items, od__law_same_items, .func (PySem.W.fnOf "_law_same_items" "_law_same_items" (defArgs s__law_same_items) (defBody s__law_same_items) (defScope s__law_same_items) .none kV__law_same_items dc__law_same_items pm__law_same_items an__law_same_items cd__law_same_items ct__law_same_items), sl__law_same_items⟩) (c__law_same_items : PySem.W.codeIn K cd__law_same_items "_law_same_items" = true) (k__law_same_items : PySem.W.keepIn K (.ref f__law_same_items) = true)
    (a__law_same : PySem.W.nsIn K mainGlobals "_law_same" = some (some (.ref f__law_same))) (l__law_same : K.lookup f__law_same = some ⟨oc__law_same, od__law_same, .func (PySem.W.fnOf "_law_same" "_law_same" (defArgs s__law_same) (defBody s__law_same) (defScope s__law_same) .none kV__law_same dc__law_same pm__law_same an__law_same cd__law_same ct__law_same), sl__law_same⟩) (c__law_same : PySem.W.codeIn K cd__law_same "_law_same" = true) (k__law_same : PySem.W.keepIn K (.ref f__law_same) = true)
    (a__law_put : PySem.W.nsIn K mainGlobals "_law_put" = some (some (.ref f__law_put))) (l__law_put : K.lookup f__law_put = some ⟨oc__law_put, od__law_put, .func (PySem.W.fnOf "_law_put" "_law_put" (defArgs s__law_put) (defBody s__law_put) (defScope s__law_put) .none kV__law_put dc__law_put pm__law_put an__law_put cd__law_put ct__law_put), sl__law_put⟩) (c__law_put : PySem.W.codeIn K cd__law_put "_law_put" = true) (k__law_put : PySem.W.keepIn K (.ref f__law_put) = true)
    (a__law_gap : PySem.W.nsIn K mainGlobals "_law_gap" = some (some (.ref f__law_gap))) (l__law_gap : K.lookup f__law_gap = some ⟨oc__law_gap, od__law_gap, .func (PySem.W.fnOf "_law_gap" "_law_gap" (defArgs s__law_gap) (defBody s__law_gap) (defScope s__law_gap) .none kV__law_gap dc__law_gap pm__law_gap an__law_gap cd__law_gap ct__law_gap), sl__law_gap⟩) (c__law_gap : PySem.W.codeIn K cd__law_gap "_law_gap" = true) (k__law_gap : PySem.W.keepIn K (.ref f__law_gap) = true)
    (a__law_token_out : PySem.W.nsIn K mainGlobals "_law_token_out" = some (some (.ref f__law_token_out))) (l__law_token_out : K.lookup f__law_token_out = some ⟨oc__law_token_out, od__law_token_out, .func (PySem.W.fnOf "_law_token_out" "_law_token_out" (defArgs s__law_token_out) (defBody s__law_token_out) (defScope s__law_token_out) .none kV__law_token_out dc__law_token_out pm__law_token_out an__law_token_out cd__law_token_out ct__law_token_out), sl__law_token_out⟩) (c__law_token_out : PySem.W.codeIn K cd__law_token_out "_law_token_out" = true) (k__law_token_out : PySem.W.keepIn K (.ref f__law_token_out) = true)
    (a__law_some_name : PySem.W.nsIn K mainGlobals "_law_some_name" = some (some (.ref f__law_some_name))) (l__law_some_name : K.lookup f__law_some_name = some ⟨oc__law_some_name, od__law_some_name, .func (PySem.W.fnOf "_law_some_name" "_law_some_name" (defArgs s__law_some_name) (defBody s__law_some_name) (defScope s__law_some_name) .none kV__law_some_name dc__law_some_name pm__law_some_name an__law_some_name cd__law_some_name ct__law_some_name), sl__law_some_name⟩) (c__law_some_name : PySem.W.codeIn K cd__law_some_name "_law_some_name" = true) (k__law_some_name : PySem.W.keepIn K (.ref f__law_some_name) = true)
    (a__law_tree : PySem.W.nsIn K mainGlobals "_law_tree" = some (some (.ref f__law_tree))) (l__law_tree : K.lookup f__law_tree = some ⟨oc__law_tree, od__law_tree, .func (PySem.W.fnOf "_law_tree" "_law_tree" (defArgs s__law_tree) (defBody s__law_tree) (defScope s__law_tree) .none kV__law_tree dc__law_tree pm__law_tree an__law_tree cd__law_tree ct__law_tree), sl__law_tree⟩) (c__law_tree : PySem.W.codeIn K cd__law_tree "_law_tree" = true) (k__law_tree : PySem.W.keepIn K (.ref f__law_tree) = true)
    (a__law_leaf : PySem.W.nsIn K mainGlobals "_law_leaf" = some (some (.ref f__law_leaf))) (l__law_leaf : K.lookup f__law_leaf = some ⟨oc__law_leaf, od__law_leaf, .func (PySem.W.fnOf "_law_leaf" "_law_leaf" (defArgs s__law_leaf) (defBody s__law_leaf) (defScope s__law_leaf) .none kV__law_leaf dc__law_leaf pm__law_leaf an__law_leaf cd__law_leaf ct__law_leaf), sl__law_leaf⟩) (c__law_leaf : PySem.W.codeIn K cd__law_leaf "_law_leaf" = true) (k__law_leaf : PySem.W.keepIn K (.ref f__law_leaf) = true)
    (a__law_call : PySem.W.nsIn K mainGlobals "_law_call" = some (some (.ref f__law_call))) (l__law_call : K.lookup f__law_call = some ⟨oc__law_call, od__law_call, .func (PySem.W.fnOf "_law_call" "_law_call" (defArgs s__law_call) (defBody s__law_call) (defScope s__law_call) .none kV__law_call dc__law_call pm__law_call an__law_call cd__law_call ct__law_call), sl__law_call⟩) (c__law_call : PySem.W.codeIn K cd__law_call "_law_call" = true) (k__law_call : PySem.W.keepIn K (.ref f__law_call) = true)
    (a__law_reach : PySem.W.nsIn K mainGlobals "_law_reach" = some (some (.ref f__law_reach))) (l__law_reach : K.lookup f__law_reach = some ⟨oc__law_reach, od__law_reach, .func (PySem.W.fnOf "_law_reach" "_law_reach" (defArgs s__law_reach) (defBody s__law_reach) (defScope s__law_reach) .none kV__law_reach dc__law_reach pm__law_reach an__law_reach cd__law_reach ct__law_reach), sl__law_reach⟩) (c__law_reach : PySem.W.codeIn K cd__law_reach "_law_reach" = true) (k__law_reach : PySem.W.keepIn K (.ref f__law_reach) = true)
    (a__law_prefix : PySem.W.nsIn K mainGlobals "_law_prefix" = some (some (.ref f__law_prefix))) (l__law_prefix : K.lookup f__law_prefix = some ⟨oc__law_prefix, od__law_prefix, .func (PySem.W.fnOf "_law_prefix" "_law_prefix" (defArgs s__law_prefix) (defBody s__law_prefix) (defScope s__law_prefix) .none kV__law_prefix dc__law_prefix pm__law_prefix an__law_prefix cd__law_prefix ct__law_prefix), sl__law_prefix⟩) (c__law_prefix : PySem.W.codeIn K cd__law_prefix "_law_prefix" = true) (k__law_prefix : PySem.W.keepIn K (.ref f__law_prefix) = true)
    (a__law_binary : PySem.W.nsIn K mainGlobals "_law_binary" = some (some (.ref f__law_binary))) (l__law_binary : K.lookup f__law_binary = some ⟨oc__law_binary, od__law_binary, .func (PySem.W.fnOf "_law_binary" "_law_binary" (defArgs s__law_binary) (defBody s__law_binary) (defScope s__law_binary) .none kV__law_binary dc__law_binary pm__law_binary an__law_binary cd__law_binary ct__law_binary), sl__law_binary⟩) (c__law_binary : PySem.W.codeIn K cd__law_binary "_law_binary" = true) (k__law_binary : PySem.W.keepIn K (.ref f__law_binary) = true)
    (a__law_wide : PySem.W.nsIn K mainGlobals "_law_wide" = some (some (.ref f__law_wide))) (l__law_wide : K.lookup f__law_wide = some ⟨oc__law_wide, od__law_wide, .func (PySem.W.fnOf "_law_wide" "_law_wide" (defArgs s__law_wide) (defBody s__law_wide) (defScope s__law_wide) .none kV__law_wide dc__law_wide pm__law_wide an__law_wide cd__law_wide ct__law_wide), sl__law_wide⟩) (c__law_wide : PySem.W.codeIn K cd__law_wide "_law_wide" = true) (k__law_wide : PySem.W.keepIn K (.ref f__law_wide) = true)
    (a_law : PySem.W.nsIn K mainGlobals "law" = some (some (.ref f_law))) (l_law : K.lookup f_law = some ⟨oc_law, od_law, .func (PySem.W.fnOf "law" "law" (defArgs s_law) (defBody s_law) (defScope s_law) .none kV_law dc_law pm_law an_law cd_law ct_law), sl_law⟩) (c_law : PySem.W.codeIn K cd_law "law" = true) (k_law : PySem.W.keepIn K (.ref f_law) = true)
    (z_abs : PySem.W.nsIn K mainGlobals "abs" = some none) (z_bool : PySem.W.nsIn K mainGlobals "bool" = some none) (z_dict : PySem.W.nsIn K mainGlobals "dict" = some none) (z_int : PySem.W.nsIn K mainGlobals "int" = some none) (z_isinstance : PySem.W.nsIn K mainGlobals "isinstance" = some none) (z_len : PySem.W.nsIn K mainGlobals "len" = some none) (z_list : PySem.W.nsIn K mainGlobals "list" = some none) (z_range : PySem.W.nsIn K mainGlobals "range" = some none) (z_str : PySem.W.nsIn K mainGlobals "str" = some none) (z_tuple : PySem.W.nsIn K mainGlobals "tuple" = some none) {t_LETTERS : Tok} (z_LETTERS : PySem.W.nsIn K mainGlobals "LETTERS" = some (some (.str k_LETTERS t_LETTERS))) {t_DIGITS : Tok} (z_DIGITS : PySem.W.nsIn K mainGlobals "DIGITS" = some (some (.str k_DIGITS t_DIGITS))) {t_NAME_CHARACTERS : Tok} (z_NAME_CHARACTERS : PySem.W.nsIn K mainGlobals "NAME_CHARACTERS" = some (some (.str k_NAME_CHARACTERS t_NAME_CHARACTERS))) {t_SIGNS : Tok} (z_SIGNS : PySem.W.nsIn K mainGlobals "SIGNS" = some (some (.str k_SIGNS t_SIGNS))) {t_MOST_TOKENS : Tok} (z_MOST_TOKENS : PySem.W.nsIn K mainGlobals "MOST_TOKENS" = some (some (.int 300 t_MOST_TOKENS))) {t_MOST_DEPTH : Tok} (z_MOST_DEPTH : PySem.W.nsIn K mainGlobals "MOST_DEPTH" = some (some (.int 30 t_MOST_DEPTH))) (y1_SyntaxProblem : PySem.W.findIn K (.ref e_SyntaxProblem) "__getattribute__" = some (some (.builtin "BaseException.__getattribute__"))) (y2_SyntaxProblem : PySem.W.findIn K (.ref e_SyntaxProblem) "__getattr__" = some none) (y3_SyntaxProblem : PySem.W.findIn K (.ref e_SyntaxProblem) "__class__" = some (some (.builtin "object.__class__"))) (y6_SyntaxProblem : PySem.W.mroIn K e_SyntaxProblem (.type "object") = some true) (y4_SyntaxProblem : PySem.W.specialIn K (.builtin "object.__class__") "__get__" = some (some (.builtin "getset_descriptor.__get__"))) (y5_SyntaxProblem : PySem.W.takesIn K (.builtin "object.__class__") = some true) (s_SyntaxProblem_SyntaxProblem : PySem.W.subIn K (.ref e_SyntaxProblem) (.ref e_SyntaxProblem) = some true) (s_SyntaxProblem_ServerError : PySem.W.subIn K (.ref e_SyntaxProblem) (.ref e_ServerError) = some true) {f_WORDS : Addr} {od_WORDS : Option Addr} {its_WORDS : Array Value} {n_WORDS : Nat} {sl_WORDS : Array (Option Value)} (a_WORDS : PySem.W.nsIn K mainGlobals "WORDS" = some (some (.ref f_WORDS))) (l_WORDS : K.lookup f_WORDS = some ⟨.type "tuple", od_WORDS, .seq its_WORDS n_WORDS, sl_WORDS⟩) (v_WORDS : Vals (k_WORDS.map V.str) its_WORDS.toList) {f_SUMS : Addr} {od_SUMS : Option Addr} {its_SUMS : Array Value} {n_SUMS : Nat} {sl_SUMS : Array (Option Value)} (a_SUMS : PySem.W.nsIn K mainGlobals "SUMS" = some (some (.ref f_SUMS))) (l_SUMS : K.lookup f_SUMS = some ⟨.type "tuple", od_SUMS, .seq its_SUMS n_SUMS, sl_SUMS⟩) (v_SUMS : Vals (k_SUMS.map V.str) its_SUMS.toList) {f_PRODUCTS : Addr} {od_PRODUCTS : Option Addr} {its_PRODUCTS : Array Value} {n_PRODUCTS : Nat} {sl_PRODUCTS : Array (Option Value)} (a_PRODUCTS : PySem.W.nsIn K mainGlobals "PRODUCTS" = some (some (.ref f_PRODUCTS))) (l_PRODUCTS : K.lookup f_PRODUCTS = some ⟨.type "tuple", od_PRODUCTS, .seq its_PRODUCTS n_PRODUCTS, sl_PRODUCTS⟩) (v_PRODUCTS : Vals (k_PRODUCTS.map V.str) its_PRODUCTS.toList) {f_LEVELS : Addr} {od_LEVELS : Option Addr} {its_LEVELS : Array Value} {n_LEVELS : Nat} {sl_LEVELS : Array (Option Value)} (a_LEVELS : PySem.W.nsIn K mainGlobals "LEVELS" = some (some (.ref f_LEVELS))) {f_LEVELS_0 f_LEVELS_1 : Addr} (l_LEVELS : K.lookup f_LEVELS = some ⟨.type "tuple", od_LEVELS, .seq its_LEVELS n_LEVELS, sl_LEVELS⟩) (v_LEVELS : its_LEVELS.toList = [.ref f_LEVELS_0, .ref f_LEVELS_1]) {od_LEVELS_0 : Option Addr} {its_LEVELS_0 : Array Value} {n_LEVELS_0 : Nat} {sl_LEVELS_0 : Array (Option Value)} (l_LEVELS_0 : K.lookup f_LEVELS_0 = some ⟨.type "tuple", od_LEVELS_0, .seq its_LEVELS_0 n_LEVELS_0, sl_LEVELS_0⟩) (v_LEVELS_0 : Vals ((["or"] : List Str).map V.str) its_LEVELS_0.toList) {od_LEVELS_1 : Option Addr} {its_LEVELS_1 : Array Value} {n_LEVELS_1 : Nat} {sl_LEVELS_1 : Array (Option Value)} (l_LEVELS_1 : K.lookup f_LEVELS_1 = some ⟨.type "tuple", od_LEVELS_1, .seq its_LEVELS_1 n_LEVELS_1, sl_LEVELS_1⟩) (v_LEVELS_1 : Vals ((["and"] : List Str).map V.str) its_LEVELS_1.toList)
    : ∃ fd : FuncData, (∀ (s : Shared) (v : Value), BindsTo s fd ⟨[v], []⟩ [("_law_script", v)]) ∧ ∀ base : Heap, K.In base → base.Ns mainGlobals mg → FnOk l.prog w K mg base CX0 81 fa fd ["_law_script"] (spD K (S_law K)) := by
  have e := hfa.symm.trans (PySem.W.mg_of X G a_law)
  cases e
  have F__wall := fun_mk (st := s__wall) l__wall c__wall k__wall
  have B__wall := F__wall.binds (ps := ["k"]) fun _ _ _ _ _ _ us hl => match us, hl with | [_], _ => rfl
  have F_SyntaxProblem___init__ := fun_mk (st := s_SyntaxProblem___init__) l_SyntaxProblem___init__ c_SyntaxProblem___init__ k_SyntaxProblem___init__
  have B_SyntaxProblem___init__ := F_SyntaxProblem___init__.binds (ps := ["self", "start", "end"]) fun _ _ _ _ _ _ us hl => match us, hl with | [_, _, _], _ => rfl
  have F_run_end := fun_mk (st := s_run_end) l_run_end c_run_end k_run_end
  have B_run_end := F_run_end.binds (ps := ["text", "start", "allowed"]) fun _ _ _ _ _ _ us hl => match us, hl with | [_, _, _], _ => rfl
  have F_token_at := fun_mk (st := s_token_at) l_token_at c_token_at k_token_at
  have B_token_at := F_token_at.binds (ps := ["text", "start"]) fun _ _ _ _ _ _ us hl => match us, hl with | [_, _], _ => rfl
  have F_tokens_between := fun_mk (st := s_tokens_between) l_tokens_between c_tokens_between k_tokens_between
  have B_tokens_between := F_tokens_between.binds (ps := ["text", "start", "end"]) fun _ _ _ _ _ _ us hl => match us, hl with | [_, _, _], _ => rfl
  have F_tokens := fun_mk (st := s_tokens) l_tokens c_tokens k_tokens
  have B_tokens := F_tokens.binds (ps := ["text"]) fun _ _ _ _ _ _ us hl => match us, hl with | [_], _ => rfl
  have F_number_value := fun_mk (st := s_number_value) l_number_value c_number_value k_number_value
  have B_number_value := F_number_value.binds (ps := ["digits"]) fun _ _ _ _ _ _ us hl => match us, hl with | [_], _ => rfl
  have F_Reader___init__ := fun_mk (st := s_Reader___init__) l_Reader___init__ c_Reader___init__ k_Reader___init__
  have B_Reader___init__ := F_Reader___init__.binds (ps := ["self", "text"]) fun _ _ _ _ _ _ us hl => match us, hl with | [_, _], _ => rfl
  have F_Reader_place := fun_mk (st := s_Reader_place) l_Reader_place c_Reader_place k_Reader_place
  have B_Reader_place := F_Reader_place.binds (ps := ["self"]) fun _ _ _ _ _ _ us hl => match us, hl with | [_], _ => rfl
  have F_Reader_need := fun_mk (st := s_Reader_need) l_Reader_need c_Reader_need k_Reader_need
  have B_Reader_need := F_Reader_need.binds (ps := ["self", "condition"]) fun _ _ _ _ _ _ us hl => match us, hl with | [_, _], _ => rfl
  have F_Reader_sort_now := fun_mk (st := s_Reader_sort_now) l_Reader_sort_now c_Reader_sort_now k_Reader_sort_now
  have B_Reader_sort_now := F_Reader_sort_now.binds (ps := ["self"]) fun _ _ _ _ _ _ us hl => match us, hl with | [_], _ => rfl
  have F_Reader_fixed := fun_mk (st := s_Reader_fixed) l_Reader_fixed c_Reader_fixed k_Reader_fixed
  have B_Reader_fixed := F_Reader_fixed.binds (ps := ["self"]) fun _ _ _ _ _ _ us hl => match us, hl with | [_], _ => rfl
  have F_Reader_last_end := fun_mk (st := s_Reader_last_end) l_Reader_last_end c_Reader_last_end k_Reader_last_end
  have B_Reader_last_end := F_Reader_last_end.binds (ps := ["self"]) fun _ _ _ _ _ _ us hl => match us, hl with | [_], _ => rfl
  have F_Reader_take := fun_mk (st := s_Reader_take) l_Reader_take c_Reader_take k_Reader_take
  have B_Reader_take := F_Reader_take.binds (ps := ["self", "expected"]) fun _ _ _ _ _ _ us hl => match us, hl with | [_, _], _ => rfl
  have F_Reader_try_take := fun_mk (st := s_Reader_try_take) l_Reader_try_take c_Reader_try_take k_Reader_try_take
  have B_Reader_try_take := F_Reader_try_take.binds (ps := ["self", "expected"]) fun _ _ _ _ _ _ us hl => match us, hl with | [_, _], _ => rfl
  have F_Reader_mark := fun_mk (st := s_Reader_mark) l_Reader_mark c_Reader_mark k_Reader_mark
  have B_Reader_mark := F_Reader_mark.binds (ps := ["self"]) fun _ _ _ _ _ _ us hl => match us, hl with | [_], _ => rfl
  have F_Reader_marks := fun_mk (st := s_Reader_marks) l_Reader_marks c_Reader_marks k_Reader_marks
  have B_Reader_marks := F_Reader_marks.binds (ps := ["self"]) fun _ _ _ _ _ _ us hl => match us, hl with | [_], _ => rfl
  have F_Reader_finish := fun_mk (st := s_Reader_finish) l_Reader_finish c_Reader_finish k_Reader_finish
  have B_Reader_finish := F_Reader_finish.binds (ps := ["self"]) fun _ _ _ _ _ _ us hl => match us, hl with | [_], _ => rfl
  have F_Reader_field := fun_mk (st := s_Reader_field) l_Reader_field c_Reader_field k_Reader_field
  have B_Reader_field := F_Reader_field.binds (ps := ["self"]) fun _ _ _ _ _ _ us hl => match us, hl with | [_], _ => rfl
  have F_Reader_fields := fun_mk (st := s_Reader_fields) l_Reader_fields c_Reader_fields k_Reader_fields
  have B_Reader_fields := F_Reader_fields.binds (ps := ["self"]) fun _ _ _ _ _ _ us hl => match us, hl with | [_], _ => rfl
  have F_Reader_bound := fun_mk (st := s_Reader_bound) l_Reader_bound c_Reader_bound k_Reader_bound
  have B_Reader_bound := F_Reader_bound.binds (ps := ["self"]) fun _ _ _ _ _ _ us hl => match us, hl with | [_], _ => rfl
  have F_Reader_begin := fun_mk (st := s_Reader_begin) l_Reader_begin c_Reader_begin k_Reader_begin
  have B_Reader_begin := F_Reader_begin.binds (ps := ["self"]) fun _ _ _ _ _ _ us hl => match us, hl with | [_], _ => rfl
  have F_Reader_value := fun_mk (st := s_Reader_value) l_Reader_value c_Reader_value k_Reader_value
  have B_Reader_value := F_Reader_value.binds (ps := ["self"]) fun _ _ _ _ _ _ us hl => match us, hl with | [_], _ => rfl
  have F_Reader_let_value := fun_mk (st := s_Reader_let_value) l_Reader_let_value c_Reader_let_value k_Reader_let_value
  have B_Reader_let_value := F_Reader_let_value.binds (ps := ["self", "start"]) fun _ _ _ _ _ _ us hl => match us, hl with | [_, _], _ => rfl
  have F_Reader_if_value := fun_mk (st := s_Reader_if_value) l_Reader_if_value c_Reader_if_value k_Reader_if_value
  have B_Reader_if_value := F_Reader_if_value.binds (ps := ["self", "start"]) fun _ _ _ _ _ _ us hl => match us, hl with | [_, _], _ => rfl
  have F_Reader_loop_value := fun_mk (st := s_Reader_loop_value) l_Reader_loop_value c_Reader_loop_value k_Reader_loop_value
  have B_Reader_loop_value := F_Reader_loop_value.binds (ps := ["self", "start"]) fun _ _ _ _ _ _ us hl => match us, hl with | [_, _], _ => rfl
  have F_Reader_either := fun_mk (st := s_Reader_either) l_Reader_either c_Reader_either k_Reader_either
  have B_Reader_either := F_Reader_either.binds (ps := ["self", "level"]) fun _ _ _ _ _ _ us hl => match us, hl with | [_, _], _ => rfl
  have F_Reader_negated := fun_mk (st := s_Reader_negated) l_Reader_negated c_Reader_negated k_Reader_negated
  have B_Reader_negated := F_Reader_negated.binds (ps := ["self"]) fun _ _ _ _ _ _ us hl => match us, hl with | [_], _ => rfl
  have F_Reader_compared := fun_mk (st := s_Reader_compared) l_Reader_compared c_Reader_compared k_Reader_compared
  have B_Reader_compared := F_Reader_compared.binds (ps := ["self"]) fun _ _ _ _ _ _ us hl => match us, hl with | [_], _ => rfl
  have F_Reader_chain := fun_mk (st := s_Reader_chain) l_Reader_chain c_Reader_chain k_Reader_chain
  have B_Reader_chain := F_Reader_chain.binds (ps := ["self", "signs"]) fun _ _ _ _ _ _ us hl => match us, hl with | [_, _], _ => rfl
  have F_Reader_signed := fun_mk (st := s_Reader_signed) l_Reader_signed c_Reader_signed k_Reader_signed
  have B_Reader_signed := F_Reader_signed.binds (ps := ["self"]) fun _ _ _ _ _ _ us hl => match us, hl with | [_], _ => rfl
  have F_Reader_reached := fun_mk (st := s_Reader_reached) l_Reader_reached c_Reader_reached k_Reader_reached
  have B_Reader_reached := F_Reader_reached.binds (ps := ["self"]) fun _ _ _ _ _ _ us hl => match us, hl with | [_], _ => rfl
  have F_Reader_simple := fun_mk (st := s_Reader_simple) l_Reader_simple c_Reader_simple k_Reader_simple
  have B_Reader_simple := F_Reader_simple.binds (ps := ["self"]) fun _ _ _ _ _ _ us hl => match us, hl with | [_], _ => rfl
  have F_Reader_arguments := fun_mk (st := s_Reader_arguments) l_Reader_arguments c_Reader_arguments k_Reader_arguments
  have B_Reader_arguments := F_Reader_arguments.binds (ps := ["self"]) fun _ _ _ _ _ _ us hl => match us, hl with | [_], _ => rfl
  have F_read_value := fun_mk (st := s_read_value) l_read_value c_read_value k_read_value
  have B_read_value := F_read_value.binds (ps := ["text"]) fun _ _ _ _ _ _ us hl => match us, hl with | [_], _ => rfl
  have F__law_tape := fun_mk (st := s__law_tape) l__law_tape c__law_tape k__law_tape
  have B__law_tape := F__law_tape.binds (ps := ["_law_script"]) fun _ _ _ _ _ _ us hl => match us, hl with | [_], _ => rfl
  have F__law_take := fun_mk (st := s__law_take) l__law_take c__law_take k__law_take
  have B__law_take := F__law_take.binds (ps := ["_law_tape_here", "_law_many"]) fun _ _ _ _ _ _ us hl => match us, hl with | [_, _], _ => rfl
  have F__law_is_integer := fun_mk (st := s__law_is_integer) l__law_is_integer c__law_is_integer k__law_is_integer
  have B__law_is_integer := F__law_is_integer.binds (ps := ["_law_actual"]) fun _ _ _ _ _ _ us hl => match us, hl with | [_], _ => rfl
  have F__law_same_items := fun_mk (st := s__law_same_items) l__law_same_items c__law_same_items k__law_same_items
  have B__law_same_items := F__law_same_items.binds (ps := ["_law_actual", "_law_expected"]) fun _ _ _ _ _ _ us hl => match us, hl with | [_, _], _ => rfl
  have F__law_same := fun_mk (st := s__law_same) l__law_same c__law_same k__law_same
  have B__law_same := F__law_same.binds (ps := ["_law_actual", "_law_expected"]) fun _ _ _ _ _ _ us hl => match us, hl with | [_, _], _ => rfl
  have F__law_put := fun_mk (st := s__law_put) l__law_put c__law_put k__law_put
  have B__law_put := F__law_put.binds (ps := ["_law_out", "_law_string"]) fun _ _ _ _ _ _ us hl => match us, hl with | [_, _], _ => rfl
  have F__law_gap := fun_mk (st := s__law_gap) l__law_gap c__law_gap k__law_gap
  have B__law_gap := F__law_gap.binds (ps := ["_law_tape_here", "_law_out", "_law_needed"]) fun _ _ _ _ _ _ us hl => match us, hl with | [_, _, _], _ => rfl
  have F__law_token_out := fun_mk (st := s__law_token_out) l__law_token_out c__law_token_out k__law_token_out
  have B__law_token_out := F__law_token_out.binds (ps := ["_law_tape_here", "_law_out", "_law_string"]) fun _ _ _ _ _ _ us hl => match us, hl with | [_, _, _], _ => rfl
  have F__law_some_name := fun_mk (st := s__law_some_name) l__law_some_name c__law_some_name k__law_some_name
  have B__law_some_name := F__law_some_name.binds (ps := ["_law_tape_here"]) fun _ _ _ _ _ _ us hl => match us, hl with | [_], _ => rfl
  have F__law_tree := fun_mk (st := s__law_tree) l__law_tree c__law_tree k__law_tree
  have B__law_tree := F__law_tree.binds (ps := ["_law_tape_here", "_law_out", "_law_depth", "_law_level"]) fun _ _ _ _ _ _ us hl => match us, hl with | [_, _, _, _], _ => rfl
  have F__law_leaf := fun_mk (st := s__law_leaf) l__law_leaf c__law_leaf k__law_leaf
  have B__law_leaf := F__law_leaf.binds (ps := ["_law_tape_here", "_law_out", "_law_choice"]) fun _ _ _ _ _ _ us hl => match us, hl with | [_, _, _], _ => rfl
  have F__law_call := fun_mk (st := s__law_call) l__law_call c__law_call k__law_call
  have B__law_call := F__law_call.binds (ps := ["_law_tape_here", "_law_out", "_law_depth"]) fun _ _ _ _ _ _ us hl => match us, hl with | [_, _, _], _ => rfl
  have F__law_reach := fun_mk (st := s__law_reach) l__law_reach c__law_reach k__law_reach
  have B__law_reach := F__law_reach.binds (ps := ["_law_tape_here", "_law_out", "_law_depth"]) fun _ _ _ _ _ _ us hl => match us, hl with | [_, _, _], _ => rfl
  have F__law_prefix := fun_mk (st := s__law_prefix) l__law_prefix c__law_prefix k__law_prefix
  have B__law_prefix := F__law_prefix.binds (ps := ["_law_tape_here", "_law_out", "_law_depth", "_law_word", "_law_sign", "_law_level"]) fun _ _ _ _ _ _ us hl => match us, hl with | [_, _, _, _, _, _], _ => rfl
  have F__law_binary := fun_mk (st := s__law_binary) l__law_binary c__law_binary k__law_binary
  have B__law_binary := F__law_binary.binds (ps := ["_law_tape_here", "_law_out", "_law_depth", "_law_level"]) fun _ _ _ _ _ _ us hl => match us, hl with | [_, _, _, _], _ => rfl
  have F__law_wide := fun_mk (st := s__law_wide) l__law_wide c__law_wide k__law_wide
  have B__law_wide := F__law_wide.binds (ps := ["_law_tape_here", "_law_out", "_law_depth", "_law_choice"]) fun _ _ _ _ _ _ us hl => match us, hl with | [_, _, _, _], _ => rfl
  have F_law := fun_mk (st := s_law) l_law c_law k_law
  have B_law := F_law.binds (ps := ["_law_script"]) fun _ _ _ _ _ _ us hl => match us, hl with | [_], _ => rfl
  let T : Txt K mg := {
    a_Reader := f_Reader, g_Reader := PySem.W.mg_of X G g_Reader, i_Reader := g_Reader, cl_Reader := ⟨pg_Reader, hd_Reader, po_Reader, sa_Reader⟩,
    no_Reader_text := no_Reader_text,
    no_Reader_tokens := no_Reader_tokens,
    no_Reader_at := no_Reader_at,
    no_Reader_depth := no_Reader_depth,
    a__wall := _, fd__wall := _, F__wall := F__wall, b__wall := B__wall,
    g__wall := PySem.W.mg_of X G a__wall,
    a_SyntaxProblem___init__ := _, fd_SyntaxProblem___init__ := _, F_SyntaxProblem___init__ := F_SyntaxProblem___init__, b_SyntaxProblem___init__ := B_SyntaxProblem___init__,
    a_run_end := _, fd_run_end := _, F_run_end := F_run_end, b_run_end := B_run_end,
    g_run_end := PySem.W.mg_of X G a_run_end,
    a_token_at := _, fd_token_at := _, F_token_at := F_token_at, b_token_at := B_token_at,
    g_token_at := PySem.W.mg_of X G a_token_at,
    a_tokens_between := _, fd_tokens_between := _, F_tokens_between := F_tokens_between, b_tokens_between := B_tokens_between,
    g_tokens_between := PySem.W.mg_of X G a_tokens_between,
    a_tokens := _, fd_tokens := _, F_tokens := F_tokens, b_tokens := B_tokens,
    g_tokens := PySem.W.mg_of X G a_tokens,
    a_number_value := _, fd_number_value := _, F_number_value := F_number_value, b_number_value := B_number_value,
    g_number_value := PySem.W.mg_of X G a_number_value,
    a_Reader___init__ := _, fd_Reader___init__ := _, F_Reader___init__ := F_Reader___init__, b_Reader___init__ := B_Reader___init__,
    m_Reader___init__ := ⟨mk_Reader, a_Reader___init__, i_Reader___init__, kc_Reader⟩,
    a_Reader_place := _, fd_Reader_place := _, F_Reader_place := F_Reader_place, b_Reader_place := B_Reader_place,
    m_Reader_place := ⟨a_Reader_place, i_Reader_place, k_Reader_place⟩,
    a_Reader_need := _, fd_Reader_need := _, F_Reader_need := F_Reader_need, b_Reader_need := B_Reader_need,
    m_Reader_need := ⟨a_Reader_need, i_Reader_need, k_Reader_need⟩,
    a_Reader_sort_now := _, fd_Reader_sort_now := _, F_Reader_sort_now := F_Reader_sort_now, b_Reader_sort_now := B_Reader_sort_now,
    m_Reader_sort_now := ⟨a_Reader_sort_now, i_Reader_sort_now, k_Reader_sort_now⟩,
    a_Reader_fixed := _, fd_Reader_fixed := _, F_Reader_fixed := F_Reader_fixed, b_Reader_fixed := B_Reader_fixed,
    m_Reader_fixed := ⟨a_Reader_fixed, i_Reader_fixed, k_Reader_fixed⟩,
    a_Reader_last_end := _, fd_Reader_last_end := _, F_Reader_last_end := F_Reader_last_end, b_Reader_last_end := B_Reader_last_end,
    m_Reader_last_end := ⟨a_Reader_last_end, i_Reader_last_end, k_Reader_last_end⟩,
    a_Reader_take := _, fd_Reader_take := _, F_Reader_take := F_Reader_take, b_Reader_take := B_Reader_take,
    m_Reader_take := ⟨a_Reader_take, i_Reader_take, k_Reader_take⟩,
    a_Reader_try_take := _, fd_Reader_try_take := _, F_Reader_try_take := F_Reader_try_take, b_Reader_try_take := B_Reader_try_take,
    m_Reader_try_take := ⟨a_Reader_try_take, i_Reader_try_take, k_Reader_try_take⟩,
    a_Reader_mark := _, fd_Reader_mark := _, F_Reader_mark := F_Reader_mark, b_Reader_mark := B_Reader_mark,
    m_Reader_mark := ⟨a_Reader_mark, i_Reader_mark, k_Reader_mark⟩,
    a_Reader_marks := _, fd_Reader_marks := _, F_Reader_marks := F_Reader_marks, b_Reader_marks := B_Reader_marks,
    m_Reader_marks := ⟨a_Reader_marks, i_Reader_marks, k_Reader_marks⟩,
    a_Reader_finish := _, fd_Reader_finish := _, F_Reader_finish := F_Reader_finish, b_Reader_finish := B_Reader_finish,
    m_Reader_finish := ⟨a_Reader_finish, i_Reader_finish, k_Reader_finish⟩,
    a_Reader_field := _, fd_Reader_field := _, F_Reader_field := F_Reader_field, b_Reader_field := B_Reader_field,
    m_Reader_field := ⟨a_Reader_field, i_Reader_field, k_Reader_field⟩,
    a_Reader_fields := _, fd_Reader_fields := _, F_Reader_fields := F_Reader_fields, b_Reader_fields := B_Reader_fields,
    m_Reader_fields := ⟨a_Reader_fields, i_Reader_fields, k_Reader_fields⟩,
    a_Reader_bound := _, fd_Reader_bound := _, F_Reader_bound := F_Reader_bound, b_Reader_bound := B_Reader_bound,
    m_Reader_bound := ⟨a_Reader_bound, i_Reader_bound, k_Reader_bound⟩,
    a_Reader_begin := _, fd_Reader_begin := _, F_Reader_begin := F_Reader_begin, b_Reader_begin := B_Reader_begin,
    m_Reader_begin := ⟨a_Reader_begin, i_Reader_begin, k_Reader_begin⟩,
    a_Reader_value := _, fd_Reader_value := _, F_Reader_value := F_Reader_value, b_Reader_value := B_Reader_value,
    m_Reader_value := ⟨a_Reader_value, i_Reader_value, k_Reader_value⟩,
    a_Reader_let_value := _, fd_Reader_let_value := _, F_Reader_let_value := F_Reader_let_value, b_Reader_let_value := B_Reader_let_value,
    m_Reader_let_value := ⟨a_Reader_let_value, i_Reader_let_value, k_Reader_let_value⟩,
    a_Reader_if_value := _, fd_Reader_if_value := _, F_Reader_if_value := F_Reader_if_value, b_Reader_if_value := B_Reader_if_value,
    m_Reader_if_value := ⟨a_Reader_if_value, i_Reader_if_value, k_Reader_if_value⟩,
    a_Reader_loop_value := _, fd_Reader_loop_value := _, F_Reader_loop_value := F_Reader_loop_value, b_Reader_loop_value := B_Reader_loop_value,
    m_Reader_loop_value := ⟨a_Reader_loop_value, i_Reader_loop_value, k_Reader_loop_value⟩,
    a_Reader_either := _, fd_Reader_either := _, F_Reader_either := F_Reader_either, b_Reader_either := B_Reader_either,
    m_Reader_either := ⟨a_Reader_either, i_Reader_either, k_Reader_either⟩,
    a_Reader_negated := _, fd_Reader_negated := _, F_Reader_negated := F_Reader_negated, b_Reader_negated := B_Reader_negated,
    m_Reader_negated := ⟨a_Reader_negated, i_Reader_negated, k_Reader_negated⟩,
    a_Reader_compared := _, fd_Reader_compared := _, F_Reader_compared := F_Reader_compared, b_Reader_compared := B_Reader_compared,
    m_Reader_compared := ⟨a_Reader_compared, i_Reader_compared, k_Reader_compared⟩,
    a_Reader_chain := _, fd_Reader_chain := _, F_Reader_chain := F_Reader_chain, b_Reader_chain := B_Reader_chain,
    m_Reader_chain := ⟨a_Reader_chain, i_Reader_chain, k_Reader_chain⟩,
    a_Reader_signed := _, fd_Reader_signed := _, F_Reader_signed := F_Reader_signed, b_Reader_signed := B_Reader_signed,
    m_Reader_signed := ⟨a_Reader_signed, i_Reader_signed, k_Reader_signed⟩,
    a_Reader_reached := _, fd_Reader_reached := _, F_Reader_reached := F_Reader_reached, b_Reader_reached := B_Reader_reached,
    m_Reader_reached := ⟨a_Reader_reached, i_Reader_reached, k_Reader_reached⟩,
    a_Reader_simple := _, fd_Reader_simple := _, F_Reader_simple := F_Reader_simple, b_Reader_simple := B_Reader_simple,
    m_Reader_simple := ⟨a_Reader_simple, i_Reader_simple, k_Reader_simple⟩,
    a_Reader_arguments := _, fd_Reader_arguments := _, F_Reader_arguments := F_Reader_arguments, b_Reader_arguments := B_Reader_arguments,
    m_Reader_arguments := ⟨a_Reader_arguments, i_Reader_arguments, k_Reader_arguments⟩,
    a_read_value := _, fd_read_value := _, F_read_value := F_read_value, b_read_value := B_read_value,
    g_read_value := PySem.W.mg_of X G a_read_value,
    a__law_tape := _, fd__law_tape := _, F__law_tape := F__law_tape, b__law_tape := B__law_tape,
    g__law_tape := PySem.W.mg_of X G a__law_tape,
    a__law_take := _, fd__law_take := _, F__law_take := F__law_take, b__law_take := B__law_take,
    g__law_take := PySem.W.mg_of X G a__law_take,
    a__law_is_integer := _, fd__law_is_integer := _, F__law_is_integer := F__law_is_integer, b__law_is_integer := B__law_is_integer,
    g__law_is_integer := PySem.W.mg_of X G a__law_is_integer,
    a__law_same_items := _, fd__law_same_items := _, F__law_same_items := F__law_same_items, b__law_same_items := B__law_same_items,
    g__law_same_items := PySem.W.mg_of X G a__law_same_items,
    a__law_same := _, fd__law_same := _, F__law_same := F__law_same, b__law_same := B__law_same,
    g__law_same := PySem.W.mg_of X G a__law_same,
    a__law_put := _, fd__law_put := _, F__law_put := F__law_put, b__law_put := B__law_put,
    g__law_put := PySem.W.mg_of X G a__law_put,
    a__law_gap := _, fd__law_gap := _, F__law_gap := F__law_gap, b__law_gap := B__law_gap,
    g__law_gap := PySem.W.mg_of X G a__law_gap,
    a__law_token_out := _, fd__law_token_out := _, F__law_token_out := F__law_token_out, b__law_token_out := B__law_token_out,
    g__law_token_out := PySem.W.mg_of X G a__law_token_out,
    a__law_some_name := _, fd__law_some_name := _, F__law_some_name := F__law_some_name, b__law_some_name := B__law_some_name,
    g__law_some_name := PySem.W.mg_of X G a__law_some_name,
    a__law_tree := _, fd__law_tree := _, F__law_tree := F__law_tree, b__law_tree := B__law_tree,
    g__law_tree := PySem.W.mg_of X G a__law_tree,
    a__law_leaf := _, fd__law_leaf := _, F__law_leaf := F__law_leaf, b__law_leaf := B__law_leaf,
    g__law_leaf := PySem.W.mg_of X G a__law_leaf,
    a__law_call := _, fd__law_call := _, F__law_call := F__law_call, b__law_call := B__law_call,
    g__law_call := PySem.W.mg_of X G a__law_call,
    a__law_reach := _, fd__law_reach := _, F__law_reach := F__law_reach, b__law_reach := B__law_reach,
    g__law_reach := PySem.W.mg_of X G a__law_reach,
    a__law_prefix := _, fd__law_prefix := _, F__law_prefix := F__law_prefix, b__law_prefix := B__law_prefix,
    g__law_prefix := PySem.W.mg_of X G a__law_prefix,
    a__law_binary := _, fd__law_binary := _, F__law_binary := F__law_binary, b__law_binary := B__law_binary,
    g__law_binary := PySem.W.mg_of X G a__law_binary,
    a__law_wide := _, fd__law_wide := _, F__law_wide := F__law_wide, b__law_wide := B__law_wide,
    g__law_wide := PySem.W.mg_of X G a__law_wide,
    a_law := _, fd_law := _, F_law := F_law, b_law := B_law,
    g_law := PySem.W.mg_of X G a_law,
    n_abs := PySem.W.mg_none_of X G z_abs,
    n_bool := PySem.W.mg_none_of X G z_bool,
    n_dict := PySem.W.mg_none_of X G z_dict,
    n_int := PySem.W.mg_none_of X G z_int,
    n_isinstance := PySem.W.mg_none_of X G z_isinstance,
    n_len := PySem.W.mg_none_of X G z_len,
    n_list := PySem.W.mg_none_of X G z_list,
    n_range := PySem.W.mg_none_of X G z_range,
    n_str := PySem.W.mg_none_of X G z_str,
    n_tuple := PySem.W.mg_none_of X G z_tuple,
    c_LETTERS := ⟨_, PySem.W.mg_of X G z_LETTERS⟩,
    c_DIGITS := ⟨_, PySem.W.mg_of X G z_DIGITS⟩,
    c_NAME_CHARACTERS := ⟨_, PySem.W.mg_of X G z_NAME_CHARACTERS⟩,
    c_SIGNS := ⟨_, PySem.W.mg_of X G z_SIGNS⟩,
    c_MOST_TOKENS := ⟨_, PySem.W.mg_of X G z_MOST_TOKENS⟩,
    c_MOST_DEPTH := ⟨_, PySem.W.mg_of X G z_MOST_DEPTH⟩,
    e_ServerError := _, i_ServerError := i_ServerError, g_ServerError := PySem.W.mg_of X G i_ServerError, x_ServerError := x_ServerError, k_ServerError := k_ServerError, b_ServerError := b_ServerError, t_ServerError := t_ServerError, d_ServerError := d_ServerError,
    e_SyntaxProblem := _, i_SyntaxProblem := i_SyntaxProblem, g_SyntaxProblem := PySem.W.mg_of X G i_SyntaxProblem, k_SyntaxProblem := k_SyntaxProblem, b_SyntaxProblem := b_SyntaxProblem, t_SyntaxProblem := t_SyntaxProblem, d_SyntaxProblem := d_SyntaxProblem, o_SyntaxProblem := ⟨⟨_, _, _, _, _, _, _, _, _, _, _, _, _, _, _, xl_SyntaxProblem, by rfl⟩, sa_SyntaxProblem, b_SyntaxProblem, t_SyntaxProblem, k_SyntaxProblem⟩, j_SyntaxProblem := a_SyntaxProblem___init__, h_SyntaxProblem := i_SyntaxProblem___init__,
    no_SyntaxProblem_start := no_SyntaxProblem_start,
    no_SyntaxProblem_end := no_SyntaxProblem_end,
    y_SyntaxProblem := ⟨y1_SyntaxProblem, y2_SyntaxProblem, b_SyntaxProblem, d_SyntaxProblem, y3_SyntaxProblem, y4_SyntaxProblem, y5_SyntaxProblem, y6_SyntaxProblem⟩,
    s_SyntaxProblem_SyntaxProblem := s_SyntaxProblem_SyntaxProblem,
    s_SyntaxProblem_ServerError := s_SyntaxProblem_ServerError,
    a_WORDS := f_WORDS, g_WORDS := PySem.W.mg_of X G a_WORDS, w_WORDS := DL.rp_strs l_WORDS rfl rfl v_WORDS,
    a_SUMS := f_SUMS, g_SUMS := PySem.W.mg_of X G a_SUMS, w_SUMS := DL.rp_strs l_SUMS rfl rfl v_SUMS,
    a_PRODUCTS := f_PRODUCTS, g_PRODUCTS := PySem.W.mg_of X G a_PRODUCTS, w_PRODUCTS := DL.rp_strs l_PRODUCTS rfl rfl v_PRODUCTS,
    a_LEVELS := f_LEVELS, g_LEVELS := PySem.W.mg_of X G a_LEVELS, w_LEVELS := DL.rp_pair l_LEVELS rfl rfl v_LEVELS (DL.rp_strs l_LEVELS_0 rfl rfl v_LEVELS_0) (DL.rp_strs l_LEVELS_1 rfl rfl v_LEVELS_1) }
  refine ⟨_, fun s v => ?_, fun base _ _ => all_ok (P := l.prog) T⟩
  exact .of_eq rfl
end My
open PySem PySem.W PyProof.Rows
set_option maxHeartbeats 0 in
theorem PySem.Challenge.cw_samenames_k08_values_are_read_as_printed_holds : PySem.Challenge.rw_samenames_k08_values_are_read_as_printed.Holds := by
  w_on; o_law; k_head; (case hw => w_witness2)
  k_fill
  refine L2.walk_of (l := PySem.Challenge.rw_samenames_k08_values_are_read_as_printed) (n := 63) (k := 81) (x := "_law_script") (CX := fun _ => L2.CX0) (sp := fun w => DL.spD _ (DL.S_law _)) rfl (by decide) rfl ⟨rfl, by decide, by decide⟩ (fun w h Y => PySem.W.kIn_of Y) ?F (fun _ _ a ns hl _ hS => DL.law_start hl hS) (fun _ _ _ _ _ h => h)
  case F =>
    first | intro w mg fa h Y KX G hmg | intro w mg fa h KX G hmg
    refine' My.all_mk KX G hmg ?g_Reader ?pg_Reader ?hd_Reader ?po_Reader ?sa_Reader ?mk_Reader ?kc_Reader ?no_Reader_text ?no_Reader_tokens ?no_Reader_at ?no_Reader_depth ?i_ServerError ?x_ServerError ?k_ServerError ?b_ServerError ?t_ServerError ?d_ServerError ?i_SyntaxProblem ?xl_SyntaxProblem ?sa_SyntaxProblem ?k_SyntaxProblem ?b_SyntaxProblem ?t_SyntaxProblem ?d_SyntaxProblem ?no_SyntaxProblem_start ?no_SyntaxProblem_end ?a__wall ?l__wall ?c__wall ?k__wall ?a_SyntaxProblem___init__ ?i_SyntaxProblem___init__ ?l_SyntaxProblem___init__ ?c_SyntaxProblem___init__ ?k_SyntaxProblem___init__ ?a_run_end ?l_run_end ?c_run_end ?k_run_end ?a_token_at ?l_token_at ?c_token_at ?k_token_at ?a_tokens_between ?l_tokens_between ?c_tokens_between ?k_tokens_between ?a_tokens ?l_tokens ?c_tokens ?k_tokens ?a_number_value ?l_number_value ?c_number_value ?k_number_value ?a_Reader___init__ ?i_Reader___init__ ?l_Reader___init__ ?c_Reader___init__ ?k_Reader___init__ ?a_Reader_place ?i_Reader_place ?l_Reader_place ?c_Reader_place ?k_Reader_place ?a_Reader_need ?i_Reader_need ?l_Reader_need ?c_Reader_need ?k_Reader_need ?a_Reader_sort_now ?i_Reader_sort_now ?l_Reader_sort_now ?c_Reader_sort_now ?k_Reader_sort_now ?a_Reader_fixed ?i_Reader_fixed ?l_Reader_fixed ?c_Reader_fixed ?k_Reader_fixed ?a_Reader_last_end ?i_Reader_last_end ?l_Reader_last_end ?c_Reader_last_end ?k_Reader_last_end ?a_Reader_take ?i_Reader_take ?l_Reader_take ?c_Reader_take ?k_Reader_take ?a_Reader_try_take ?i_Reader_try_take ?l_Reader_try_take ?c_Reader_try_take ?k_Reader_try_take ?a_Reader_mark ?i_Reader_mark ?l_Reader_mark ?c_Reader_mark ?k_Reader_mark ?a_Reader_marks ?i_Reader_marks ?l_Reader_marks ?c_Reader_marks ?k_Reader_marks ?a_Reader_finish ?i_Reader_finish ?l_Reader_finish ?c_Reader_finish ?k_Reader_finish ?a_Reader_field ?i_Reader_field ?l_Reader_field ?c_Reader_field ?k_Reader_field ?a_Reader_fields ?i_Reader_fields ?l_Reader_fields ?c_Reader_fields ?k_Reader_fields ?a_Reader_bound ?i_Reader_bound ?l_Reader_bound ?c_Reader_bound ?k_Reader_bound ?a_Reader_begin ?i_Reader_begin ?l_Reader_begin ?c_Reader_begin ?k_Reader_begin ?a_Reader_value ?i_Reader_value ?l_Reader_value ?c_Reader_value ?k_Reader_value ?a_Reader_let_value ?i_Reader_let_value ?l_Reader_let_value ?c_Reader_let_value ?k_Reader_let_value ?a_Reader_if_value ?i_Reader_if_value ?l_Reader_if_value ?c_Reader_if_value ?k_Reader_if_value ?a_Reader_loop_value ?i_Reader_loop_value ?l_Reader_loop_value ?c_Reader_loop_value ?k_Reader_loop_value ?a_Reader_either ?i_Reader_either ?l_Reader_either ?c_Reader_either ?k_Reader_either ?a_Reader_negated ?i_Reader_negated ?l_Reader_negated ?c_Reader_negated ?k_Reader_negated ?a_Reader_compared ?i_Reader_compared ?l_Reader_compared ?c_Reader_compared ?k_Reader_compared ?a_Reader_chain ?i_Reader_chain ?l_Reader_chain ?c_Reader_chain ?k_Reader_chain ?a_Reader_signed ?i_Reader_signed ?l_Reader_signed ?c_Reader_signed ?k_Reader_signed ?a_Reader_reached ?i_Reader_reached ?l_Reader_reached ?c_Reader_reached ?k_Reader_reached ?a_Reader_simple ?i_Reader_simple ?l_Reader_simple ?c_Reader_simple ?k_Reader_simple ?a_Reader_arguments ?i_Reader_arguments ?l_Reader_arguments ?c_Reader_arguments ?k_Reader_arguments ?a_read_value ?l_read_value ?c_read_value ?k_read_value ?a__law_tape ?l__law_tape ?c__law_tape ?k__law_tape ?a__law_take ?l__law_take ?c__law_take ?k__law_take ?a__law_is_integer ?l__law_is_integer ?c__law_is_integer ?k__law_is_integer ?a__law_same_items ?l__law_same_items ?c__law_same_items ?k__law_same_items ?a__law_same ?l__law_same ?c__law_same ?k__law_same ?a__law_put ?l__law_put ?c__law_put ?k__law_put ?a__law_gap ?l__law_gap ?c__law_gap ?k__law_gap ?a__law_token_out ?l__law_token_out ?c__law_token_out ?k__law_token_out ?a__law_some_name ?l__law_some_name ?c__law_some_name ?k__law_some_name ?a__law_tree ?l__law_tree ?c__law_tree ?k__law_tree ?a__law_leaf ?l__law_leaf ?c__law_leaf ?k__law_leaf ?a__law_call ?l__law_call ?c__law_call ?k__law_call ?a__law_reach ?l__law_reach ?c__law_reach ?k__law_reach ?a__law_prefix ?l__law_prefix ?c__law_prefix ?k__law_prefix ?a__law_binary ?l__law_binary ?c__law_binary ?k__law_binary ?a__law_wide ?l__law_wide ?c__law_wide ?k__law_wide ?a_law ?l_law ?c_law ?k_law ?z_abs ?z_bool ?z_dict ?z_int ?z_isinstance ?z_len ?z_list ?z_range ?z_str ?z_tuple ?z_LETTERS ?z_DIGITS ?z_NAME_CHARACTERS ?z_SIGNS ?z_MOST_TOKENS ?z_MOST_DEPTH ?y1_SyntaxProblem ?y2_SyntaxProblem ?y3_SyntaxProblem ?y6_SyntaxProblem ?y4_SyntaxProblem ?y5_SyntaxProblem ?s_SyntaxProblem_SyntaxProblem ?s_SyntaxProblem_ServerError ?a_WORDS ?l_WORDS ?v_WORDS ?a_SUMS ?l_SUMS ?v_SUMS ?a_PRODUCTS ?l_PRODUCTS ?v_PRODUCTS ?a_LEVELS ?l_LEVELS ?v_LEVELS ?l_LEVELS_0 ?v_LEVELS_0 ?l_LEVELS_1 ?v_LEVELS_1
    (case g_Reader => k_is); (case pg_Reader => k_is); (case hd_Reader => k_is); (case po_Reader => k_is)
    (case sa_Reader => k_is); (case mk_Reader => k_is); (case kc_Reader => k_is); (case no_Reader_text => k_is)
    (case no_Reader_tokens => k_is); (case no_Reader_at => k_is); (case no_Reader_depth => k_is); (case i_ServerError => k_is)
    (case x_ServerError => k_exc); (case k_ServerError => k_is); (case b_ServerError => k_is); (case t_ServerError => k_is)
    (case d_ServerError => k_is); (case i_SyntaxProblem => k_is); (case xl_SyntaxProblem => k_is); (case sa_SyntaxProblem => k_is)
    (case k_SyntaxProblem => k_is); (case b_SyntaxProblem => k_is); (case t_SyntaxProblem => k_is); (case d_SyntaxProblem => k_is)
    (case no_SyntaxProblem_start => k_is); (case no_SyntaxProblem_end => k_is); (case a__wall => k_is); (case l__wall => k_is)
    (case c__wall => k_is); (case k__wall => k_is); (case a_SyntaxProblem___init__ => k_is); (case i_SyntaxProblem___init__ => k_is)
    (case l_SyntaxProblem___init__ => k_is); (case c_SyntaxProblem___init__ => k_is); (case k_SyntaxProblem___init__ => k_is); (case a_run_end => k_is)
    (case l_run_end => k_is); (case c_run_end => k_is); (case k_run_end => k_is); (case a_token_at => k_is)
    (case l_token_at => k_is); (case c_token_at => k_is); (case k_token_at => k_is); (case a_tokens_between => k_is)
    (case l_tokens_between => k_is); (case c_tokens_between => k_is); (case k_tokens_between => k_is); (case a_tokens => k_is)
    (case l_tokens => k_is); (case c_tokens => k_is); (case k_tokens => k_is); (case a_number_value => k_is)
    (case l_number_value => k_is); (case c_number_value => k_is); (case k_number_value => k_is); (case a_Reader___init__ => k_is)
    (case i_Reader___init__ => k_is); (case l_Reader___init__ => k_is); (case c_Reader___init__ => k_is); (case k_Reader___init__ => k_is)
    (case a_Reader_place => k_is); (case i_Reader_place => k_is); (case l_Reader_place => k_is); (case c_Reader_place => k_is)
    (case k_Reader_place => k_is); (case a_Reader_need => k_is); (case i_Reader_need => k_is); (case l_Reader_need => k_is)
    (case c_Reader_need => k_is); (case k_Reader_need => k_is); (case a_Reader_sort_now => k_is); (case i_Reader_sort_now => k_is)
    (case l_Reader_sort_now => k_is); (case c_Reader_sort_now => k_is); (case k_Reader_sort_now => k_is); (case a_Reader_fixed => k_is)
    (case i_Reader_fixed => k_is); (case l_Reader_fixed => k_is); (case c_Reader_fixed => k_is); (case k_Reader_fixed => k_is)
    (case a_Reader_last_end => k_is); (case i_Reader_last_end => k_is); (case l_Reader_last_end => k_is); (case c_Reader_last_end => k_is)
    (case k_Reader_last_end => k_is); (case a_Reader_take => k_is); (case i_Reader_take => k_is); (case l_Reader_take => k_is)
    (case c_Reader_take => k_is); (case k_Reader_take => k_is); (case a_Reader_try_take => k_is); (case i_Reader_try_take => k_is)
    (case l_Reader_try_take => k_is); (case c_Reader_try_take => k_is); (case k_Reader_try_take => k_is); (case a_Reader_mark => k_is)
    (case i_Reader_mark => k_is); (case l_Reader_mark => k_is); (case c_Reader_mark => k_is); (case k_Reader_mark => k_is)
    (case a_Reader_marks => k_is); (case i_Reader_marks => k_is); (case l_Reader_marks => k_is); (case c_Reader_marks => k_is)
    (case k_Reader_marks => k_is); (case a_Reader_finish => k_is); (case i_Reader_finish => k_is); (case l_Reader_finish => k_is)
    (case c_Reader_finish => k_is); (case k_Reader_finish => k_is); (case a_Reader_field => k_is); (case i_Reader_field => k_is)
    (case l_Reader_field => k_is); (case c_Reader_field => k_is); (case k_Reader_field => k_is); (case a_Reader_fields => k_is)
    (case i_Reader_fields => k_is); (case l_Reader_fields => k_is); (case c_Reader_fields => k_is); (case k_Reader_fields => k_is)
    (case a_Reader_bound => k_is); (case i_Reader_bound => k_is); (case l_Reader_bound => k_is); (case c_Reader_bound => k_is)
    (case k_Reader_bound => k_is); (case a_Reader_begin => k_is); (case i_Reader_begin => k_is); (case l_Reader_begin => k_is)
    (case c_Reader_begin => k_is); (case k_Reader_begin => k_is); (case a_Reader_value => k_is); (case i_Reader_value => k_is)
    (case l_Reader_value => k_is); (case c_Reader_value => k_is); (case k_Reader_value => k_is); (case a_Reader_let_value => k_is)
    (case i_Reader_let_value => k_is); (case l_Reader_let_value => k_is); (case c_Reader_let_value => k_is); (case k_Reader_let_value => k_is)
    (case a_Reader_if_value => k_is); (case i_Reader_if_value => k_is); (case l_Reader_if_value => k_is); (case c_Reader_if_value => k_is)
    (case k_Reader_if_value => k_is); (case a_Reader_loop_value => k_is); (case i_Reader_loop_value => k_is); (case l_Reader_loop_value => k_is)
    (case c_Reader_loop_value => k_is); (case k_Reader_loop_value => k_is); (case a_Reader_either => k_is); (case i_Reader_either => k_is)
    (case l_Reader_either => k_is); (case c_Reader_either => k_is); (case k_Reader_either => k_is); (case a_Reader_negated => k_is)
    (case i_Reader_negated => k_is); (case l_Reader_negated => k_is); (case c_Reader_negated => k_is); (case k_Reader_negated => k_is)
    (case a_Reader_compared => k_is); (case i_Reader_compared => k_is); (case l_Reader_compared => k_is); (case c_Reader_compared => k_is)
    (case k_Reader_compared => k_is); (case a_Reader_chain => k_is); (case i_Reader_chain => k_is); (case l_Reader_chain => k_is)
    (case c_Reader_chain => k_is); (case k_Reader_chain => k_is); (case a_Reader_signed => k_is); (case i_Reader_signed => k_is)
    (case l_Reader_signed => k_is); (case c_Reader_signed => k_is); (case k_Reader_signed => k_is); (case a_Reader_reached => k_is)
    (case i_Reader_reached => k_is); (case l_Reader_reached => k_is); (case c_Reader_reached => k_is); (case k_Reader_reached => k_is)
    (case a_Reader_simple => k_is); (case i_Reader_simple => k_is); (case l_Reader_simple => k_is); (case c_Reader_simple => k_is)
    (case k_Reader_simple => k_is); (case a_Reader_arguments => k_is); (case i_Reader_arguments => k_is); (case l_Reader_arguments => k_is)
    (case c_Reader_arguments => k_is); (case k_Reader_arguments => k_is); (case a_read_value => k_is); (case l_read_value => k_is)
    (case c_read_value => k_is); (case k_read_value => k_is); (case a__law_tape => k_is); (case l__law_tape => k_is)
    (case c__law_tape => k_is); (case k__law_tape => k_is); (case a__law_take => k_is); (case l__law_take => k_is)
    (case c__law_take => k_is); (case k__law_take => k_is); (case a__law_is_integer => k_is); (case l__law_is_integer => k_is)
    (case c__law_is_integer => k_is); (case k__law_is_integer => k_is); (case a__law_same_items => k_is); (case l__law_same_items => k_is)
    (case c__law_same_items => k_is); (case k__law_same_items => k_is); (case a__law_same => k_is); (case l__law_same => k_is)
    (case c__law_same => k_is); (case k__law_same => k_is); (case a__law_put => k_is); (case l__law_put => k_is)
    (case c__law_put => k_is); (case k__law_put => k_is); (case a__law_gap => k_is); (case l__law_gap => k_is)
    (case c__law_gap => k_is); (case k__law_gap => k_is); (case a__law_token_out => k_is); (case l__law_token_out => k_is)
    (case c__law_token_out => k_is); (case k__law_token_out => k_is); (case a__law_some_name => k_is); (case l__law_some_name => k_is)
    (case c__law_some_name => k_is); (case k__law_some_name => k_is); (case a__law_tree => k_is); (case l__law_tree => k_is)
    (case c__law_tree => k_is); (case k__law_tree => k_is); (case a__law_leaf => k_is); (case l__law_leaf => k_is)
    (case c__law_leaf => k_is); (case k__law_leaf => k_is); (case a__law_call => k_is); (case l__law_call => k_is)
    (case c__law_call => k_is); (case k__law_call => k_is); (case a__law_reach => k_is); (case l__law_reach => k_is)
    (case c__law_reach => k_is); (case k__law_reach => k_is); (case a__law_prefix => k_is); (case l__law_prefix => k_is)
    (case c__law_prefix => k_is); (case k__law_prefix => k_is); (case a__law_binary => k_is); (case l__law_binary => k_is)
    (case c__law_binary => k_is); (case k__law_binary => k_is); (case a__law_wide => k_is); (case l__law_wide => k_is)
    (case c__law_wide => k_is); (case k__law_wide => k_is); (case a_law => k_is); (case l_law => k_is)
    (case c_law => k_is); (case k_law => k_is); (case z_abs => k_is); (case z_bool => k_is)
    (case z_dict => k_is); (case z_int => k_is); (case z_isinstance => k_is); (case z_len => k_is)
    (case z_list => k_is); (case z_range => k_is); (case z_str => k_is); (case z_tuple => k_is)
    (case z_LETTERS => k_is); (case z_DIGITS => k_is); (case z_NAME_CHARACTERS => k_is); (case z_SIGNS => k_is)
    (case z_MOST_TOKENS => k_is); (case z_MOST_DEPTH => k_is); (case y1_SyntaxProblem => k_is); (case y2_SyntaxProblem => k_is)
    (case y3_SyntaxProblem => k_is); (case y6_SyntaxProblem => k_is); (case y4_SyntaxProblem => k_is); (case y5_SyntaxProblem => k_is)
    (case s_SyntaxProblem_SyntaxProblem => first | rfl | k_is); (case s_SyntaxProblem_ServerError => first | rfl | k_is); (case a_WORDS => k_is); (case l_WORDS => k_is)
    (case v_WORDS => exact .cons ⟨_, rfl⟩ (.cons ⟨_, rfl⟩ (.cons ⟨_, rfl⟩ (.cons ⟨_, rfl⟩ (.cons ⟨_, rfl⟩ (.cons ⟨_, rfl⟩ (.cons ⟨_, rfl⟩ (.cons ⟨_, rfl⟩ (.cons ⟨_, rfl⟩ (.cons ⟨_, rfl⟩ (.cons ⟨_, rfl⟩ (.cons ⟨_, rfl⟩ (.cons ⟨_, rfl⟩ (.cons ⟨_, rfl⟩ (.cons ⟨_, rfl⟩ (.cons ⟨_, rfl⟩ (.cons ⟨_, rfl⟩ (.cons ⟨_, rfl⟩ (.cons ⟨_, rfl⟩ (.cons ⟨_, rfl⟩ (.nil))))))))))))))))))))); (case a_SUMS => k_is); (case l_SUMS => k_is); (case v_SUMS => exact .cons ⟨_, rfl⟩ (.cons ⟨_, rfl⟩ (.nil)))
    (case a_PRODUCTS => k_is); (case l_PRODUCTS => k_is); (case v_PRODUCTS => exact .cons ⟨_, rfl⟩ (.cons ⟨_, rfl⟩ (.nil))); (case a_LEVELS => k_is)
    (case l_LEVELS => k_is); (case v_LEVELS => exact rfl); (case l_LEVELS_0 => k_is); (case v_LEVELS_0 => exact .cons ⟨_, rfl⟩ (.nil))
    (case l_LEVELS_1 => k_is); (case v_LEVELS_1 => exact .cons ⟨_, rfl⟩ (.nil))
