import PyProof.Rows.All
import Wide.All
import OpenK.AllK
import Wide.FinOn
import HandS.ForMost
import HandS.Exc
import HandS.ExcOwn
import HandS.TryOnly
import HandS.WordsExc
import HandS.IsInst
import HandS.StrMore
import HandS.Replace
import HandS.ReplaceDef
import HandS.ExcIs
import HandS.HotCalls
import PySem.Challenge.RW_samenames_k02_joint_edits
set_option Elab.async false
set_option linter.all false
set_option maxRecDepth 100000
namespace DL
open PySem PySem.Spec PyProof.Rows L2

/-! ### deep data at values -/
mutual
inductive Rp (K : PySem.W.Frag) (G : Hp) : V → PyData → Prop
  | non : Rp K G .non .none
  | bl (b : Bool) : Rp K G (.bl b) (.bool b)
  | int (i : Int) : Rp K G (.int i) (.int i)
  | str (x : Str) : Rp K G (.str x) (.str x)
  | lst {a : Addr} {xs : List V} {ds : List PyData} : G a = some (.lst xs) → RpAll K G xs ds → Rp K G (.ref a) (.list ds)
  | tup {a : Addr} {xs : List V} {ds : List PyData} : SqT K G a xs → RpAll K G xs ds → Rp K G (.ref a) (.tuple ds)
inductive RpAll (K : PySem.W.Frag) (G : Hp) : List V → List PyData → Prop
  | nil : RpAll K G [] []
  | cons {v : V} {vs : List V} {d : PyData} {ds : List PyData} : Rp K G v d → RpAll K G vs ds → RpAll K G (v :: vs) (d :: ds)
end

/-- H' has all that H has -/
def Sub (H H' : Hp) : Prop := ∀ a x, H a = some x → H' a = some x
theorem Sub.refl {H : Hp} : Sub H H := fun _ _ h => h
theorem Sub.trans {A B C : Hp} (h : Sub A B) (k : Sub B C) : Sub A C := fun a x e => k a x (h a x e)
theorem Sub.upd {H : Hp} {p : Addr} {o : HO} (h : H p = none) : Sub H (upd H p o) := fun b x e => by
  rw [upd_ne (ne_of_none e h)]; exact e
theorem Rd.sub {H H' : Hp} (s : Sub H H') {a : Addr} {u : HO} (h : Rd H a u) : Rd H' a u := by
  rcases h with h | ⟨o, h⟩
  · exact .inl (s _ _ h)
  · exact .inr ⟨o, s _ _ h⟩
theorem SqT.sub {K : PySem.W.Frag} {H H' : Hp} (s : Sub H H') {a : Addr} {xs : List V} (h : SqT K H a xs) : SqT K H' a xs := by
  rcases h with h | h
  · exact .inl (Rd.sub s h)
  · exact .inr h
theorem SqL.sub {K : PySem.W.Frag} {H H' : Hp} (s : Sub H H') {a : Addr} {xs : List V} (h : SqL K H a xs) : SqL K H' a xs := by
  rcases h with h | h
  · exact .inl (Rd.sub s h)
  · exact .inr h
section
variable {K : PySem.W.Frag} {G G' : Hp}
mutual
theorem Rp.sub (s : Sub G G') : ∀ {v : V} {d : PyData}, Rp K G v d → Rp K G' v d
  | _, _, .non => .non
  | _, _, .bl b => .bl b
  | _, _, .int b => .int b
  | _, _, .str b => .str b
  | _, _, .lst h t => .lst (s _ _ h) (RpAll.sub s t)
  | _, _, .tup h t => .tup (SqT.sub s h) (RpAll.sub s t)
theorem RpAll.sub (s : Sub G G') : ∀ {v : List V} {d : List PyData}, RpAll K G v d → RpAll K G' v d
  | _, _, .nil => .nil
  | _, _, .cons h t => .cons (Rp.sub s h) (RpAll.sub s t)
end
mutual
theorem Rp.dp : ∀ {v : V} {d : PyData}, Rp K G v d → Dp K G v d
  | _, _, .non => .non
  | _, _, .bl b => .bl b
  | _, _, .int b => .int b
  | _, _, .str b => .str b
  | _, _, .lst h t => .lst (.inl (.inl h)) (RpAll.dp t)
  | _, _, .tup h t => .tup h (RpAll.dp t)
theorem RpAll.dp : ∀ {v : List V} {d : List PyData}, RpAll K G v d → DpAll K G v d
  | _, _, .nil => .nil
  | _, _, .cons h t => .cons (Rp.dp h) (RpAll.dp t)
end
theorem RpAll.len : ∀ {v : List V} {d : List PyData}, RpAll K G v d → v.length = d.length
  | _, _, .nil => rfl
  | _, _, .cons _ t => congrArg (· + 1) (RpAll.len t)
theorem RpAll.get : ∀ {v : List V} {d : List PyData} {i : Nat} {x : V}, RpAll K G v d → v[i]? = some x → ∃ y, d[i]? = some y ∧ Rp K G x y
  | _, _, _, _, .nil, e => by simp at e
  | _, _, 0, _, .cons r _, e => by simp at e; subst e; exact ⟨_, rfl, r⟩
  | _, _, i + 1, x, .cons _ t, e => by
    obtain ⟨u, h1, h2⟩ := RpAll.get (i := i) (x := x) t (by simpa using e)
    exact ⟨u, by simpa using h1, h2⟩
theorem RpAll.get' : ∀ {v : List V} {d : List PyData} {i : Nat} {y : PyData}, RpAll K G v d → d[i]? = some y → ∃ x, v[i]? = some x ∧ Rp K G x y
  | _, _, _, _, .nil, e => by simp at e
  | _, _, 0, _, .cons r _, e => by simp at e; subst e; exact ⟨_, rfl, r⟩
  | _, _, i + 1, x, .cons _ t, e => by
    obtain ⟨u, h1, h2⟩ := RpAll.get' (i := i) (y := x) t (by simpa using e)
    exact ⟨u, by simpa using h1, h2⟩
theorem RpAll.append : ∀ {v w : List V} {d e : List PyData}, RpAll K G v d → RpAll K G w e → RpAll K G (v ++ w) (d ++ e)
  | _, _, _, _, .nil, s => s
  | _, _, _, _, .cons r t, s => .cons r (RpAll.append t s)
theorem RpAll.take : ∀ {v : List V} {d : List PyData} (n : Nat), RpAll K G v d → RpAll K G (v.take n) (d.take n)
  | _, _, 0, _ => .nil
  | _, _, _ + 1, .nil => .nil
  | _, _, n + 1, .cons r t => .cons r (RpAll.take n t)
theorem RpAll.drop : ∀ {v : List V} {d : List PyData} (n : Nat), RpAll K G v d → RpAll K G (v.drop n) (d.drop n)
  | _, _, 0, r => r
  | _, _, _ + 1, .nil => .nil
  | _, _, n + 1, .cons _ t => RpAll.drop n t
theorem RpAll.set {x : V} {u : PyData} (r : Rp K G x u) : ∀ {xs : List V} {us : List PyData} (i : Nat), RpAll K G xs us → RpAll K G (xs.set i x) (us.set i u)
  | _, _, _, .nil => .nil
  | _, _, 0, .cons _ t => .cons r t
  | _, _, i + 1, .cons q t => .cons q (RpAll.set r i t)
theorem RpAll.ints : ∀ {ns : List Int}, RpAll K G (ns.map V.int) (ns.map PyData.int)
  | [] => .nil
  | _ :: _ => .cons (.int _) RpAll.ints
theorem RpAll.strs : ∀ {ns : List Str}, RpAll K G (ns.map V.str) (ns.map PyData.str)
  | [] => .nil
  | _ :: _ => .cons (.str _) RpAll.strs
theorem RpAll.of_ints : ∀ {ns : List Int} {v : List V}, RpAll K G v (ns.map PyData.int) → v = ns.map V.int
  | [], _, .nil => rfl
  | _ :: _, _, .cons h t => by cases h; rw [RpAll.of_ints t]; rfl
theorem RpAll.of_strs : ∀ {ns : List Str} {v : List V}, RpAll K G v (ns.map PyData.str) → v = ns.map V.str
  | [], _, .nil => rfl
  | _ :: _, _, .cons h t => by cases h; rw [RpAll.of_strs t]; rfl
end

/-! ### owned contents, slots, objects -/
/-- what an owned thing of a name holds -/
inductive Cont where
  | lst (ds : List PyData)
  | dic (kvs : List (Key × PyData))
def COk (K : PySem.W.Frag) (G : Hp) : HO → Cont → Prop
  | .lst xs, .lst ds => RpAll K G xs ds
  | .dK kvs, .dic ps => Paired (fun (p : Key × V) (q : Key × PyData) => p.1 = q.1 ∧ Rp K G p.2 q.2) kvs ps
  | _, _ => False
theorem COk.sub {K : PySem.W.Frag} {G G' : Hp} (s : Sub G G') : ∀ {h : HO} {c : Cont}, COk K G h c → COk K G' h c := fun {h c} x => by
  cases c with
  | lst ds => cases h <;> first | exact RpAll.sub s x | exact x.elim
  | dic ps => cases h <;> first | exact Paired.mapP x (fun a b z => ⟨z.1, Rp.sub s z.2⟩) | exact x.elim
/-- what a name is known to hold -/
inductive Sl where
  | no
  | val (d : PyData)
  | raw (v : V)
  | own (c : Cont)
/-- objects that others may change: their footprint, what holds of them -/
structure Ob where
  fp : Addr → Prop
  ok : Hp → Hp → Prop
  st : ∀ G H G' H', ok G H → Sub G G' → (∀ a, fp a → H' a = H a) → ok G' H'
def Ob.emp : Ob := ⟨fun _ => False, fun _ _ => True, fun _ _ _ _ _ _ _ => trivial⟩

def SlOk (K : PySem.W.Frag) (G H : Hp) (ov : Option V) : Sl → Prop
  | .no => True
  | .val d => ∃ v, ov = some v ∧ Rp K G v d
  | .raw u => ov = some u
  | .own c => ∃ p h, ov = some (.ref p) ∧ G p = none ∧ H p = some h ∧ COk K G h c
def OwnAt (ρ : List Sl) (σ : L2.St) (i : Nat) (p : Addr) : Prop := (∃ c, ρ[i]? = some (.own c)) ∧ σ[i]? = some (some (.ref p))
def Own (ρ : List Sl) (σ : L2.St) (p : Addr) : Prop := ∃ i, OwnAt ρ σ i p

structure Wd (o : Ob) (G H : Hp) : Prop where
  sub : Sub G H
  nfp : ∀ a, o.fp a → G a = none
  occ : ∀ a, o.fp a → ∃ x, H a = some x
  ok : o.ok G H
structure EnB (K : PySem.W.Frag) (o : Ob) (ρ : List Sl) (G : Hp) (σ : L2.St) (H : Hp) : Prop where
  wd : Wd o G H
  len : σ.length = ρ.length
  sl : ∀ (i : Nat) (s : Sl), ρ[i]? = some s → ∃ ov, σ[i]? = some ov ∧ SlOk K G H ov s
  dis : ∀ (i j : Nat) (p : Addr), OwnAt ρ σ i p → OwnAt ρ σ j p → i = j
  onf : ∀ p, Own ρ σ p → ¬ o.fp p

/-- what a piece of the run keeps -/
structure Stp (ρ : List Sl) (σ : L2.St) (o : Ob) (G H : Hp) (ρ' : List Sl) (σ' : L2.St) (o' : Ob) (G' H' : Hp) : Prop where
  g : Sub G G'
  h : ∀ a x, H a = some x → ¬ o.fp a → ¬ Own ρ σ a → H' a = some x
  n : ∀ a, G a = none → (∃ x, H a = some x) → ¬ o.fp a → ¬ Own ρ σ a → G' a = none
  f : ∀ a, o'.fp a → o.fp a ∨ H a = none ∨ Own ρ σ a
  w : ∀ a, Own ρ' σ' a → Own ρ σ a ∨ H a = none ∨ o.fp a
theorem Stp.refl {ρ : List Sl} {σ : L2.St} {o : Ob} {G H : Hp} : Stp ρ σ o G H ρ σ o G H :=
  ⟨Sub.refl, fun _ _ e _ _ => e, fun _ e _ _ _ => e, fun _ e => .inl e, fun _ e => .inl e⟩
section
variable {K : PySem.W.Frag} {ρ ρ' ρ'' : List Sl} {σ σ' σ'' : L2.St} {o o' o'' : Ob} {G H G' H' G'' H'' : Hp}
theorem Stp.trans (a : Stp ρ σ o G H ρ' σ' o' G' H') (b : Stp ρ' σ' o' G' H' ρ'' σ'' o'' G'' H'') : Stp ρ σ o G H ρ'' σ'' o'' G'' H'' := by
  have nf : ∀ c x, H c = some x → ¬ o.fp c → ¬ Own ρ σ c → ¬ o'.fp c := fun c x e h1 h2 z => by
    rcases a.f c z with q | q | q
    · exact h1 q
    · rw [q] at e; cases e
    · exact h2 q
  have nw : ∀ c x, H c = some x → ¬ o.fp c → ¬ Own ρ σ c → ¬ Own ρ' σ' c := fun c x e h1 h2 z => by
    rcases a.w c z with q | q | q
    · exact h2 q
    · rw [q] at e; cases e
    · exact h1 q
  refine ⟨a.g.trans b.g, fun c x e h1 h2 => b.h c x (a.h c x e h1 h2) (nf c x e h1 h2) (nw c x e h1 h2), fun c e ⟨x, ex⟩ h1 h2 => ?_, fun c z => ?_, fun c z => ?_⟩
  · exact b.n c (a.n c e ⟨x, ex⟩ h1 h2) ⟨x, a.h c x ex h1 h2⟩ (nf c x ex h1 h2) (nw c x ex h1 h2)
  · by_cases h1 : o.fp c
    · exact .inl h1
    by_cases h2 : Own ρ σ c
    · exact .inr (.inr h2)
    refine .inr (.inl ?_)
    cases q : H c with
    | none => rfl
    | some x =>
      have hx := a.h c x q h1 h2
      rcases b.f c z with r | r | r
      · exact absurd r (nf c x q h1 h2)
      · rw [r] at hx; cases hx
      · exact absurd r (nw c x q h1 h2)
  · by_cases h1 : o.fp c
    · exact .inr (.inr h1)
    by_cases h2 : Own ρ σ c
    · exact .inl h2
    refine .inr (.inl ?_)
    cases q : H c with
    | none => rfl
    | some x =>
      have hx := a.h c x q h1 h2
      rcases b.w c z with r | r | r
      · exact absurd r (nw c x q h1 h2)
      · rw [r] at hx; cases hx
      · exact absurd r (nf c x q h1 h2)
end

abbrev RE := List Sl → Ob → Prop
/-- an exception: its class, its attributes -/
abbrev Ex := Value × Option (List (Str × PyData))
def EOk (K : PySem.W.Frag) (G H : Hp) : Option Addr → Option (List (Str × PyData)) → Prop
  | none, none => True
  | some d, some fs => ∃ vs : List (Str × V), H d = some (.xd vs) ∧ vs.map (·.1) = fs.map (·.1) ∧ RpAll K G (vs.map (·.2)) (fs.map (·.2))
  | _, _ => False
/-- the written part; the wish of the machine about what is raised; what is known of it -/
structure Kx where
  K : PySem.W.Frag
  W : WX
  Z : Ex → RE
instance : CoeOut Kx PySem.W.Frag := ⟨fun k => k.K⟩
def WOk (K : Kx) (o : Ob) (ρ : List Sl) (G : Hp) (σ : L2.St) (H : Hp) : Prop :=
  ∀ cls fs d ρ' o' G' σ' H', K.Z (cls, fs) ρ' o' → Stp ρ σ o G H ρ' σ' o' G' H' → EnB K o' ρ' G' σ' H' → EOk K G' H' d fs → K.W cls d σ' H'
theorem WOk.step {K : Kx} {ρ ρ' : List Sl} {σ σ' : L2.St} {o o' : Ob} {G H G' H' : Hp} (w : WOk K o ρ G σ H) (s : Stp ρ σ o G H ρ' σ' o' G' H') : WOk K o' ρ' G' σ' H' :=
  fun cls fs d ρ'' o'' G'' σ'' H'' z s' e => w cls fs d ρ'' o'' G'' σ'' H'' z (s.trans s') e
structure En (K : Kx) (o : Ob) (ρ : List Sl) (G : Hp) (σ : L2.St) (H : Hp) : Prop extends EnB K o ρ G σ H where
  wo : WOk K o ρ G σ H

/-! ### values of expressions -/
inductive DV where
  | d (x : PyData)
  | raw (v : V)
  | sl (i : Nat) (c : Cont)
  | new (c : Cont)
def VOk (K : PySem.W.Frag) (o : Ob) (ρ : List Sl) (G : Hp) (σ : L2.St) (H : Hp) (v : V) : DV → Prop
  | .d x => Rp K G v x
  | .raw u => v = u
  | .sl i c => σ[i]? = some (some v) ∧ ρ[i]? = some (.own c)
  | .new c => ∃ p h, v = .ref p ∧ G p = none ∧ H p = some h ∧ COk K G h c ∧ ¬ o.fp p ∧ ¬ Own ρ σ p
/-- a value that is still the same in another environment -/
def Kept (ρ : List Sl) : DV → Prop
  | .sl i c => ρ[i]? = some (.own c)
  | _ => True
section
variable {K : PySem.W.Frag} {ρ ρ' ρ'' : List Sl} {σ σ' σ'' : L2.St} {o o' o'' : Ob} {G H G' H' G'' H'' : Hp}
theorem VOk.step {v : V} {dv : DV} (x : VOk K o ρ G σ H v dv) (s : Stp ρ σ o G H ρ' σ o' G' H') (k : Kept ρ' dv) : VOk K o' ρ' G' σ H' v dv := by
  cases dv with
  | d x' => exact Rp.sub s.g x
  | raw u => exact x
  | sl i c => exact ⟨x.1, k⟩
  | new c =>
    obtain ⟨p, h, rfl, e1, e2, ok, h1, h2⟩ := x
    refine ⟨p, h, rfl, s.n p e1 ⟨_, e2⟩ h1 h2, s.h p _ e2 h1 h2, ok.sub s.g, fun z => ?_, fun z => ?_⟩
    · rcases s.f p z with r | r | r
      · exact h1 r
      · rw [r] at e2; cases e2
      · exact h2 r
    · rcases s.w p z with r | r | r
      · exact h2 r
      · rw [r] at e2; cases e2
      · exact h1 r
end

/-- a fresh thing was not there at the start -/
def VFr (ρ : List Sl) (σ : L2.St) (o : Ob) (H : Hp) (v : V) : DV → Prop
  | .new _ => ∀ p, v = .ref p → H p = none ∨ o.fp p ∨ Own ρ σ p
  | _ => True
section
variable {K : PySem.W.Frag} {ρ ρ' ρ'' : List Sl} {σ σ' σ'' : L2.St} {o o' o'' : Ob} {G H G' H' G'' H'' : Hp}
theorem Stp.old (a : Stp ρ σ o G H ρ' σ' o' G' H') {p : Addr} (h : H' p = none ∨ o'.fp p ∨ Own ρ' σ' p) : H p = none ∨ o.fp p ∨ Own ρ σ p := by
  by_cases h1 : o.fp p
  · exact .inr (.inl h1)
  by_cases h2 : Own ρ σ p
  · exact .inr (.inr h2)
  refine .inl ?_
  cases q : H p with
  | none => rfl
  | some x =>
    have hx := a.h p x q h1 h2
    rcases h with r | r | r
    · rw [r] at hx; cases hx
    · rcases a.f p r with z | z | z
      · exact absurd z h1
      · rw [z] at q; cases q
      · exact absurd z h2
    · rcases a.w p r with z | z | z
      · exact absurd z h2
      · rw [z] at q; cases q
      · exact absurd z h1
theorem VFr.back {v : V} {dv : DV} (a : Stp ρ σ o G H ρ' σ' o' G' H') (h : VFr ρ' σ' o' H' v dv) : VFr ρ σ o H v dv := by
  cases dv with
  | new c => exact fun p e => a.old (h p e)
  | _ => trivial
end
abbrev RD := DV → List Sl → Ob → Prop
/-- the end of an expression -/
def XQ (K : Kx) (ρ : List Sl) (o : Ob) (G : Hp) (σ : L2.St) (H : Hp) (R : RD) (Q : VK) : Prop :=
  ∀ v dv ρ' o' G' H', R dv ρ' o' → Stp ρ σ o G H ρ' σ o' G' H' → En K o' ρ' G' σ H' → VOk K o' ρ' G' σ H' v dv → VFr ρ σ o H v dv → Q v H'
/-- an expression, deeply -/
def XE (K : Kx) (te : TE) (ρ : List Sl) (o : Ob) (R : RD) : Prop :=
  ∀ G σ H, En K o ρ G σ H → ∀ Q : VK, XQ K ρ o G σ H R Q → te σ H Q
/-- a test -/
def XT (K : Kx) (tt : TT) (ρ : List Sl) (o : Ob) (R : Bool → RE) : Prop :=
  ∀ G σ H, En K o ρ G σ H → ∀ Q : Bool → Hp → Prop, (∀ b ρ' o' G' H', R b ρ' o' → Stp ρ σ o G H ρ' σ o' G' H' → En K o' ρ' G' σ H' → Q b H') → tt σ H Q
inductive VAll (K : PySem.W.Frag) (o : Ob) (ρ : List Sl) (G : Hp) (σ : L2.St) (H : Hp) : List V → List DV → Prop
  | nil : VAll K o ρ G σ H [] []
  | cons {v : V} {vs : List V} {d : DV} {ds : List DV} : VOk K o ρ G σ H v d → VAll K o ρ G σ H vs ds → VAll K o ρ G σ H (v :: vs) (d :: ds)
/-- arguments -/
def XA (K : Kx) (ta : TA) (ρ : List Sl) (o : Ob) (R : List DV → RE) : Prop :=
  ∀ G σ H, En K o ρ G σ H → ∀ Q : List V → Hp → Prop, (∀ vs dvs ρ' o' G' H', R dvs ρ' o' → Stp ρ σ o G H ρ' σ o' G' H' → En K o' ρ' G' σ H' → VAll K o' ρ' G' σ H' vs dvs → Q vs H') → ta σ H Q
/-- a statement -/
def XS (K : Kx) (ts : TS) (ρ : List Sl) (o : Ob) (N : RE) (R : RD) (B C : RE) : Prop :=
  ∀ G σ H, En K o ρ G σ H → ∀ D : Ends,
    (∀ ρ' o' G' σ' H', N ρ' o' → Stp ρ σ o G H ρ' σ' o' G' H' → En K o' ρ' G' σ' H' → D.nx σ' H') →
    (∀ v dv ρ' o' G' σ' H', R dv ρ' o' → Stp ρ σ o G H ρ' σ' o' G' H' → En K o' ρ' G' σ' H' → VOk K o' ρ' G' σ' H' v dv → VFr ρ σ o H v dv → D.rt v H') →
    (∀ ρ' o' G' σ' H', B ρ' o' → Stp ρ σ o G H ρ' σ' o' G' H' → En K o' ρ' G' σ' H' → D.bk σ' H') →
    (∀ ρ' o' G' σ' H', C ρ' o' → Stp ρ σ o G H ρ' σ' o' G' H' → En K o' ρ' G' σ' H' → D.ct σ' H') → ts D σ H
/-- a target -/
def XG (K : Kx) (tg : TG) (dv : DV) (ρ : List Sl) (o : Ob) (N : RE) : Prop :=
  ∀ G σ H v, En K o ρ G σ H → VOk K o ρ G σ H v dv → ∀ Q : L2.St → Hp → Prop,
    (∀ ρ' o' G' σ' H', N ρ' o' → Stp ρ σ o G H ρ' σ' o' G' H' → En K o' ρ' G' σ' H' → Q σ' H') → tg v σ H Q
def XGs (K : Kx) (tg : TGs) (dvs : List DV) (ρ : List Sl) (o : Ob) (N : RE) : Prop :=
  ∀ G σ H vs, En K o ρ G σ H → VAll K o ρ G σ H vs dvs → ∀ Q : L2.St → Hp → Prop,
    (∀ ρ' o' G' σ' H', N ρ' o' → Stp ρ σ o G H ρ' σ' o' G' H' → En K o' ρ' G' σ' H' → Q σ' H') → tg vs σ H Q
end DL

set_option Elab.async false
set_option linter.all false
set_option maxRecDepth 100000
namespace DL
open PySem PySem.Spec PyProof.Rows L2
section
variable {K : Kx} {ρ ρ' ρ'' : List Sl} {σ σ' σ'' : L2.St} {o o' o'' : Ob} {G H G' H' G'' H'' : Hp} {p : Addr} {x : HO}

/-! ### environments and steps -/
theorem SlOk.step {K : PySem.W.Frag} {ov : Option V} {s : Sl} (h : SlOk K G H ov s) (g : Sub G G') (k : ∀ q c, s = .own c → ov = some (.ref q) → G' q = none ∧ H' q = H q) : SlOk K G' H' ov s := by
  cases s with
  | no => trivial
  | val d => obtain ⟨v, e, r⟩ := h; exact ⟨v, e, Rp.sub g r⟩
  | raw u => exact h
  | own c =>
    obtain ⟨q, y, e, h1, h2, ok⟩ := h
    obtain ⟨k1, k2⟩ := k q c rfl e
    exact ⟨q, y, e, k1, k2.trans h2, ok.sub g⟩
theorem En.own_at (e : En K o ρ G σ H) {i : Nat} {c : Cont} (h : ρ[i]? = some (.own c)) : ∃ q y, σ[i]? = some (some (.ref q)) ∧ G q = none ∧ H q = some y ∧ COk K G y c ∧ ¬ o.fp q := by
  obtain ⟨ov, h1, h2⟩ := e.sl i _ h
  obtain ⟨q, y, rfl, g, hh, ok⟩ := h2
  exact ⟨q, y, h1, g, hh, ok, e.onf q ⟨i, ⟨c, h⟩, h1⟩⟩
theorem En.occ_own (e : En K o ρ G σ H) (h : Own ρ σ p) : G p = none ∧ ∃ y, H p = some y := by
  obtain ⟨i, ⟨c, hc⟩, hs⟩ := h
  obtain ⟨q, y, h1, h2, h3, _⟩ := e.own_at hc
  rw [hs] at h1
  cases h1
  exact ⟨h2, y, h3⟩
/-- the heap moves, the names stay -/
theorem En.step (e : En K o ρ G σ H) (s : Stp ρ σ o G H ρ σ o' G' H') (w : Wd o' G' H') (k : ∀ a, Own ρ σ a → G' a = none ∧ H' a = H a ∧ ¬ o'.fp a) : En K o' ρ G' σ H' where
  wo := e.wo.step s
  wd := w
  len := e.len
  sl := fun i s' h => by
    obtain ⟨ov, h1, h2⟩ := e.sl i s' h
    refine ⟨ov, h1, h2.step s.g fun q c hs hv => ?_⟩
    subst hs
    obtain ⟨a, b, _⟩ := k q ⟨i, ⟨c, h⟩, by rw [h1, hv]⟩
    exact ⟨a, b⟩
  dis := e.dis
  onf := fun a h => (k a h).2.2
theorem Wd.newF (e : Wd o G H) (hp : H p = none) : Wd o (upd G p x) (upd H p x) where
  sub := fun b y h => by
    by_cases hb : b = p
    · subst hb; rw [upd_same] at h ⊢; exact h
    · rw [upd_ne hb] at h ⊢; exact e.sub _ _ h
  nfp := fun a h => by
    obtain ⟨y, hy⟩ := e.occ a h
    rw [upd_ne (ne_of_none hy hp)]; exact e.nfp a h
  occ := fun a h => by
    obtain ⟨y, hy⟩ := e.occ a h
    exact ⟨y, by rw [upd_ne (ne_of_none hy hp)]; exact hy⟩
  ok := by
    have gp : G p = none := by
      cases q : G p with
      | none => rfl
      | some y => have := e.sub _ _ q; rw [hp] at this; cases this
    exact o.st _ _ _ _ e.ok (Sub.upd gp) fun a h => by
      obtain ⟨y, hy⟩ := e.occ a h
      exact upd_ne (ne_of_none hy hp)
theorem Wd.newO (e : Wd o G H) (hp : H p = none) : Wd o G (upd H p x) where
  sub := e.sub.trans (Sub.upd hp)
  nfp := e.nfp
  occ := fun a h => by
    obtain ⟨y, hy⟩ := e.occ a h
    exact ⟨y, by rw [upd_ne (ne_of_none hy hp)]; exact hy⟩
  ok := o.st _ _ _ _ e.ok Sub.refl fun a h => by
      obtain ⟨y, hy⟩ := e.occ a h
      exact upd_ne (ne_of_none hy hp)
theorem Wd.gnone (e : Wd o G H) (hp : H p = none) : G p = none := by
  cases q : G p with
  | none => rfl
  | some y => have := e.sub _ _ q; rw [hp] at this; cases this
theorem Stp.newF (w : Wd o G H) (hp : H p = none) : Stp ρ σ o G H ρ σ o (upd G p x) (upd H p x) where
  g := Sub.upd (w.gnone hp)
  h := fun a y e _ _ => by rw [upd_ne (ne_of_none e hp)]; exact e
  n := fun a e ⟨y, hy⟩ _ _ => by rw [upd_ne (ne_of_none hy hp)]; exact e
  f := fun a e => .inl e
  w := fun a e => .inl e
theorem Stp.newO (hp : H p = none) : Stp ρ σ o G H ρ σ o G (upd H p x) where
  g := Sub.refl
  h := fun a y e _ _ => by rw [upd_ne (ne_of_none e hp)]; exact e
  n := fun a e _ _ _ => e
  f := fun a e => .inl e
  w := fun a e => .inl e
theorem En.newF (e : En K o ρ G σ H) (hp : H p = none) : En K o ρ (upd G p x) σ (upd H p x) :=
  e.step (Stp.newF e.wd hp) (e.wd.newF hp) fun a h => by
    obtain ⟨g, y, hy⟩ := e.occ_own h
    have n := ne_of_none hy hp
    exact ⟨by rw [upd_ne n]; exact g, upd_ne n, e.onf a h⟩
theorem En.newO (e : En K o ρ G σ H) (hp : H p = none) : En K o ρ G σ (upd H p x) :=
  e.step (Stp.newO hp) (e.wd.newO hp) fun a h => by
    obtain ⟨g, y, hy⟩ := e.occ_own h
    exact ⟨g, upd_ne (ne_of_none hy hp), e.onf a h⟩
/-- an untouched object is frozen -/
theorem En.frz (e : En K o ρ G σ H) (hG : G p = none) (hH : H p = some x) (nf : ¬ o.fp p) (no : ¬ Own ρ σ p) (wo : WOk K o ρ (upd G p x) σ H) : En K o ρ (upd G p x) σ H := by
  have s : Sub G (upd G p x) := Sub.upd hG
  have wd : Wd o (upd G p x) H := by
    refine ⟨fun b y h => ?_, fun a h => ?_, e.wd.occ, o.st _ _ _ _ e.wd.ok s fun _ _ => rfl⟩
    · by_cases hb : b = p
      · subst hb; rw [upd_same] at h; rw [hH]; exact h
      · rw [upd_ne hb] at h; exact e.wd.sub _ _ h
    · rw [upd_ne (show a ≠ p from fun z => nf (by rw [← z]; exact h))]; exact e.wd.nfp a h
  refine ⟨⟨wd, e.len, fun i s' h => ?_, e.dis, e.onf⟩, wo⟩
  obtain ⟨ov, h1, h2⟩ := e.sl i s' h
  refine ⟨ov, h1, h2.step s fun q c hs hv => ⟨?_, rfl⟩⟩
  subst hs
  have ow : Own ρ σ q := ⟨i, ⟨c, h⟩, by rw [h1, hv]⟩
  rw [upd_ne (show q ≠ p from fun z => no (by rw [← z]; exact ow))]
  exact (e.occ_own ow).1
theorem Stp.frz (s : Stp ρ σ o G H ρ' σ' o' G' H') (hG : G' p = none) (fr : H p = none ∨ o.fp p ∨ Own ρ σ p) : Stp ρ σ o G H ρ' σ' o' (upd G' p x) H' := by
  refine ⟨s.g.trans (Sub.upd hG), s.h, fun a h ⟨y, hy⟩ h1 h2 => ?_, s.f, s.w⟩
  have n : a ≠ p := fun z => by
    subst z
    rcases fr with q | q | q
    · rw [hy] at q; cases q
    · exact h1 q
    · exact h2 q
  rw [upd_ne n]
  exact s.n a h ⟨y, hy⟩ h1 h2
/-- an owned list of a name is frozen -/
theorem En.frzS (e : En K o ρ G σ H) {i : Nat} {ds : List PyData} (h : ρ[i]? = some (.own (.lst ds))) :
    ∃ p xs, σ[i]? = some (some (.ref p)) ∧ RpAll K (upd G p (.lst xs)) xs ds ∧ En K o (ρ.set i (.val (.list ds))) (upd G p (.lst xs)) σ H ∧ Stp ρ σ o G H (ρ.set i (.val (.list ds))) σ o (upd G p (.lst xs)) H := by
  obtain ⟨p, y, h1, h2, h3, ok, nf⟩ := e.own_at h
  have hi : i < ρ.length := (List.getElem?_eq_some_iff.mp h).1
  have own : Own ρ σ p := ⟨i, ⟨_, h⟩, h1⟩
  obtain ⟨xs, rfl⟩ : ∃ xs, y = .lst xs := by cases y <;> first | exact ⟨_, rfl⟩ | exact ok.elim
  have s : Sub G (upd G p (.lst xs)) := Sub.upd h2
  have back : ∀ j q, OwnAt (ρ.set i (.val (.list ds))) σ j q → OwnAt ρ σ j q ∧ j ≠ i := fun j q ⟨⟨c, hc⟩, hs⟩ => by
    by_cases hj : j = i
    · subst hj; rw [List.getElem?_set_self hi] at hc; cases hc
    · rw [List.getElem?_set_ne (Ne.symm hj)] at hc; exact ⟨⟨⟨c, hc⟩, hs⟩, hj⟩
  have stp : Stp ρ σ o G H (ρ.set i (.val (.list ds))) σ o (upd G p (.lst xs)) H := by
    refine ⟨s, fun a y h _ _ => h, fun a h he h1 h2 => ?_, fun a h => .inl h, fun a ⟨j, hq⟩ => .inl ⟨j, (back j a hq).1⟩⟩
    rw [upd_ne (show a ≠ p from fun z => h2 (by rw [z]; exact own))]; exact h
  refine ⟨p, xs, h1, RpAll.sub s ok, ⟨⟨⟨fun b z hb => ?_, fun a ha => ?_, e.wd.occ, o.st _ _ _ _ e.wd.ok s fun _ _ => rfl⟩, by simpa using e.len, fun j s' hj => ?_, fun j k q a b => e.dis j k q (back j q a).1 (back k q b).1, fun q ⟨j, hq⟩ => e.onf q ⟨j, (back j q hq).1⟩⟩, e.wo.step stp⟩, stp⟩
  · by_cases hbp : b = p
    · subst hbp; rw [upd_same] at hb; rw [h3]; exact hb
    · rw [upd_ne hbp] at hb; exact e.wd.sub _ _ hb
  · rw [upd_ne (show a ≠ p from fun z => nf (by rw [← z]; exact ha))]; exact e.wd.nfp a ha
  · by_cases hji : j = i
    · subst hji
      rw [List.getElem?_set_self hi] at hj
      cases hj
      exact ⟨_, h1, _, rfl, .lst upd_same (RpAll.sub s ok)⟩
    · rw [List.getElem?_set_ne (Ne.symm hji)] at hj
      obtain ⟨ov, k1, k2⟩ := e.sl j s' hj
      refine ⟨ov, k1, k2.step s fun q c hs hv => ⟨?_, rfl⟩⟩
      subst hs
      have oa : OwnAt ρ σ j q := ⟨⟨c, hj⟩, by rw [k1, hv]⟩
      rw [upd_ne (show q ≠ p from fun z => hji (e.dis j i p (by rw [← z]; exact oa) ⟨⟨_, h⟩, h1⟩))]
      exact (e.occ_own ⟨j, oa⟩).1
/-- an owned thing of a name changes -/
theorem En.mut (e : En K o ρ G σ H) {i : Nat} {c c' : Cont} {y : HO} (h : ρ[i]? = some (.own c)) (hs : σ[i]? = some (some (.ref p))) (ok : COk K G y c') :
    En K o (ρ.set i (.own c')) G σ (upd H p y) ∧ Stp ρ σ o G H (ρ.set i (.own c')) σ o G (upd H p y) := by
  have hi : i < ρ.length := (List.getElem?_eq_some_iff.mp h).1
  obtain ⟨q, z, h1, h2, h3, _, nf⟩ := e.own_at h
  rw [hs] at h1
  cases h1
  have own : Own ρ σ p := ⟨i, ⟨_, h⟩, hs⟩
  have back : ∀ j q, OwnAt (ρ.set i (.own c')) σ j q → OwnAt ρ σ j q := fun j q ⟨⟨c, hc⟩, hz⟩ => by
    by_cases hj : j = i
    · subst hj; exact ⟨⟨_, h⟩, hz⟩
    · rw [List.getElem?_set_ne (Ne.symm hj)] at hc; exact ⟨⟨c, hc⟩, hz⟩
  have stp : Stp ρ σ o G H (ρ.set i (.own c')) σ o G (upd H p y) := ⟨Sub.refl, fun a x hx _ h2 => by rw [upd_ne (show a ≠ p from fun z => h2 (by rw [z]; exact own))]; exact hx, fun a h _ _ _ => h, fun a h => .inl h, fun a ⟨j, hq⟩ => .inl ⟨j, back j a hq⟩⟩
  refine ⟨⟨⟨⟨fun b x hb => ?_, e.wd.nfp, fun a ha => ?_, o.st _ _ _ _ e.wd.ok Sub.refl fun a ha => upd_ne (show a ≠ p from fun z => nf (by rw [← z]; exact ha))⟩, by simpa using e.len, fun j s' hj => ?_, fun j k q a b => e.dis j k q (back j q a) (back k q b), fun q ⟨j, hq⟩ => e.onf q ⟨j, back j q hq⟩⟩, e.wo.step stp⟩, stp⟩
  · rw [upd_ne (show b ≠ p from fun w => by rw [w, h2] at hb; cases hb)]; exact e.wd.sub _ _ hb
  · rw [upd_ne (show a ≠ p from fun z => nf (by rw [← z]; exact ha))]; exact e.wd.occ a ha
  · by_cases hji : j = i
    · subst hji
      rw [List.getElem?_set_self hi] at hj
      cases hj
      exact ⟨_, hs, p, y, rfl, h2, upd_same, ok⟩
    · rw [List.getElem?_set_ne (Ne.symm hji)] at hj
      obtain ⟨ov, k1, k2⟩ := e.sl j s' hj
      refine ⟨ov, k1, k2.step Sub.refl fun q c hs' hv => ?_⟩
      subst hs'
      have oa : OwnAt ρ σ j q := ⟨⟨c, hj⟩, by rw [k1, hv]⟩
      have nq : q ≠ p := fun z => hji (e.dis j i p (by rw [← z]; exact oa) ⟨⟨_, h⟩, hs⟩)
      exact ⟨(e.occ_own ⟨j, oa⟩).1, upd_ne nq⟩
/-- a name gets a value -/
theorem En.store (e : En K o ρ G σ H) {i : Nat} (hi : i < ρ.length) {v : V} {s : Sl} (hs : SlOk K G H (some v) s) (hn : ∀ c, s ≠ .own c) :
    En K o (ρ.set i s) G (σ.set i (some v)) H ∧ Stp ρ σ o G H (ρ.set i s) (σ.set i (some v)) o G H := by
  have hσ : i < σ.length := by rw [e.len]; exact hi
  have back : ∀ j q, OwnAt (ρ.set i s) (σ.set i (some v)) j q → OwnAt ρ σ j q := fun j q ⟨⟨c, hc⟩, hs'⟩ => by
    by_cases hj : j = i
    · subst hj
      rw [List.getElem?_set_self hi] at hc
      exact absurd (Option.some.inj hc) (hn c)
    · rw [List.getElem?_set_ne (Ne.symm hj)] at hc hs'
      exact ⟨⟨c, hc⟩, hs'⟩
  have stp : Stp ρ σ o G H (ρ.set i s) (σ.set i (some v)) o G H := ⟨Sub.refl, fun _ _ h _ _ => h, fun _ h _ _ _ => h, fun _ h => .inl h, fun a ⟨j, hq⟩ => .inl ⟨j, back j a hq⟩⟩
  refine ⟨⟨⟨e.wd, by simpa using e.len, fun j s' hj => ?_, fun j k q a b => e.dis j k q (back j q a) (back k q b), fun q ⟨j, hq⟩ => e.onf q ⟨j, back j q hq⟩⟩, e.wo.step stp⟩, stp⟩
  by_cases hji : j = i
  · subst hji
    rw [List.getElem?_set_self hi] at hj
    cases hj
    exact ⟨_, List.getElem?_set_self hσ, hs⟩
  · rw [List.getElem?_set_ne (Ne.symm hji)] at hj
    obtain ⟨ov, k1, k2⟩ := e.sl j s' hj
    exact ⟨ov, by rw [List.getElem?_set_ne (Ne.symm hji)]; exact k1, k2⟩
/-- a name gets a fresh thing -/
theorem En.storeO (e : En K o ρ G σ H) {i : Nat} (hi : i < ρ.length) {y : HO} {c : Cont} (hG : G p = none) (hH : H p = some y) (ok : COk K G y c) (nf : ¬ o.fp p) (no : ¬ Own ρ σ p) (wo : WOk K o (ρ.set i (.own c)) G (σ.set i (some (.ref p))) H) :
    En K o (ρ.set i (.own c)) G (σ.set i (some (.ref p))) H := by
  have hσ : i < σ.length := by rw [e.len]; exact hi
  have back : ∀ j q, OwnAt (ρ.set i (.own c)) (σ.set i (some (.ref p))) j q → (j = i ∧ q = p) ∨ (j ≠ i ∧ OwnAt ρ σ j q) := fun j q ⟨⟨c, hc⟩, hs'⟩ => by
    by_cases hj : j = i
    · subst hj
      rw [List.getElem?_set_self hσ] at hs'
      cases hs'
      exact .inl ⟨rfl, rfl⟩
    · rw [List.getElem?_set_ne (Ne.symm hj)] at hc hs'
      exact .inr ⟨hj, ⟨c, hc⟩, hs'⟩
  refine ⟨⟨e.wd, by simpa using e.len, fun j s' hj => ?_, fun j k q a b => ?_, fun q ⟨j, hq⟩ => ?_⟩, wo⟩
  · by_cases hji : j = i
    · subst hji
      rw [List.getElem?_set_self hi] at hj
      cases hj
      exact ⟨_, List.getElem?_set_self hσ, p, y, rfl, hG, hH, ok⟩
    · rw [List.getElem?_set_ne (Ne.symm hji)] at hj
      obtain ⟨ov, k1, k2⟩ := e.sl j s' hj
      exact ⟨ov, by rw [List.getElem?_set_ne (Ne.symm hji)]; exact k1, k2⟩
  · rcases back j q a with ⟨h1, h2⟩ | ⟨h1, h2⟩
    · rcases back k q b with ⟨h3, h4⟩ | ⟨h3, h4⟩
      · rw [h1, h3]
      · exact absurd ⟨k, by rw [← h2]; exact h4⟩ no
    · rcases back k q b with ⟨h3, h4⟩ | ⟨h3, h4⟩
      · exact absurd ⟨j, by rw [← h4]; exact h2⟩ no
      · exact e.dis j k q h2 h4
  · rcases back j q hq with ⟨h1, h2⟩ | ⟨h1, h2⟩
    · rw [h2]; exact nf
    · exact e.onf q ⟨j, h2⟩
theorem Stp.storeO (s : Stp ρ σ o G H ρ' σ' o' G' H') {i : Nat} {c : Cont} (fr : H p = none ∨ o.fp p ∨ Own ρ σ p) (hσ : i < σ'.length) : Stp ρ σ o G H (ρ'.set i (.own c)) (σ'.set i (some (.ref p))) o' G' H' := by
  refine ⟨s.g, s.h, s.n, s.f, fun a ⟨j, ⟨c, hc⟩, hs'⟩ => ?_⟩
  by_cases hj : j = i
  · subst hj
    rw [List.getElem?_set_self hσ] at hs'
    cases hs'
    rcases fr with q | q | q
    · exact .inr (.inl q)
    · exact .inr (.inr q)
    · exact .inl q
  · rw [List.getElem?_set_ne (Ne.symm hj)] at hc hs'
    exact s.w a ⟨j, ⟨c, hc⟩, hs'⟩
theorem VAll.step {vs : List V} {dvs : List DV} (x : VAll K o ρ G σ H vs dvs) (s : Stp ρ σ o G H ρ' σ o' G' H') (k : ∀ d ∈ dvs, Kept ρ' d) : VAll K o' ρ' G' σ H' vs dvs := by
  induction x with
  | nil => exact .nil
  | cons h t ih => exact .cons (h.step s (k _ List.mem_cons_self)) (ih fun d hd => k d (List.mem_cons_of_mem _ hd))
end
end DL

set_option Elab.async false
set_option linter.all false
set_option maxRecDepth 100000
namespace DL
open PySem PySem.Spec PyProof.Rows L2
section
variable {K : Kx} {ρ : List Sl} {o : Ob} {R : RD} {N B C : RE} {te ta tb : TE} {tt : TT} {i : Nat} {T : TA}

/-! ### leaves -/
theorem xe_vd {d : PyData} (h : ρ[i]? = some (.val d)) (r : R (.d d) ρ o) : XE K (tVar i) ρ o R := fun G σ H e Q q => by
  obtain ⟨ov, h1, v, rfl, hv⟩ := e.sl i _ h
  exact ⟨v, h1, q v _ _ _ _ _ r Stp.refl e hv trivial⟩
theorem xe_vr {u : V} (h : ρ[i]? = some (.raw u)) (r : R (.raw u) ρ o) : XE K (tVar i) ρ o R := fun G σ H e Q q => by
  obtain ⟨ov, h1, rfl⟩ := e.sl i _ h
  exact ⟨u, h1, q u _ _ _ _ _ r Stp.refl e rfl trivial⟩
theorem xe_vo {c : Cont} (h : ρ[i]? = some (.own c)) (r : R (.sl i c) ρ o) : XE K (tVar i) ρ o R := fun G σ H e Q q => by
  obtain ⟨p, y, h1, _⟩ := e.own_at h
  exact ⟨_, h1, q _ _ _ _ _ _ r Stp.refl e ⟨h1, h⟩ trivial⟩
theorem xe_vf {ds : List PyData} (h : ρ[i]? = some (.own (.lst ds))) (r : R (.d (.list ds)) (ρ.set i (.val (.list ds))) o) : XE K (tVar i) ρ o R := fun G σ H e Q q => by
  obtain ⟨p, xs, h1, ok, e2, s⟩ := e.frzS h
  exact ⟨_, h1, q _ _ _ _ _ _ r s e2 (.lst upd_same ok) trivial⟩
theorem xe_int {n : Int} (r : R (.d (.int n)) ρ o) : XE K (tC (.int n)) ρ o R := fun G σ H e Q q => q _ _ _ _ _ _ r Stp.refl e (.int n) trivial
theorem xe_str {n : Str} (r : R (.d (.str n)) ρ o) : XE K (tC (.str n)) ρ o R := fun G σ H e Q q => q _ _ _ _ _ _ r Stp.refl e (.str n) trivial
theorem xe_bl {n : Bool} (r : R (.d (.bool n)) ρ o) : XE K (tC (.bl n)) ρ o R := fun G σ H e Q q => q _ _ _ _ _ _ r Stp.refl e (.bl n) trivial
theorem xe_non (r : R (.d .none) ρ o) : XE K (tC .non) ρ o R := fun G σ H e Q q => q _ _ _ _ _ _ r Stp.refl e .non trivial
theorem xe_raw {v : V} (r : R (.raw v) ρ o) : XE K (tC v) ρ o R := fun G σ H e Q q => q _ _ _ _ _ _ r Stp.refl e rfl trivial
/-- a constant of the module that is data -/
theorem xe_con {v : V} {d : PyData} (h : ∀ G, Rp K G v d) (r : R (.d d) ρ o) : XE K (tC v) ρ o R := fun G σ H e Q q => q _ _ _ _ _ _ r Stp.refl e (h G) trivial

/-! ### the same with the result frozen -/
def FzR (R : RD) : RD := fun dv ρ o => match dv with
  | .d x => R (.d x) ρ o
  | .raw v => R (.raw v) ρ o
  | .new (.lst ds) => R (.d (.list ds)) ρ o
  | _ => False
def XEF (K : Kx) (te : TE) (ρ : List Sl) (o : Ob) (R : RD) : Prop := XE K te ρ o R
theorem xf_vd {d : PyData} (h : ρ[i]? = some (.val d)) (r : R (.d d) ρ o) : XEF K (tVar i) ρ o R := xe_vd h r
theorem xf_vr {u : V} (h : ρ[i]? = some (.raw u)) (r : R (.raw u) ρ o) : XEF K (tVar i) ρ o R := xe_vr h r
theorem xf_vf {ds : List PyData} (h : ρ[i]? = some (.own (.lst ds))) (r : R (.d (.list ds)) (ρ.set i (.val (.list ds))) o) : XEF K (tVar i) ρ o R := xe_vf h r
theorem xf_of (h : XE K te ρ o (FzR R)) : XEF K te ρ o R := fun G σ H e Q q => h G σ H e Q fun v dv ρ' o' G' H' r s e' ok fr => by
  cases dv with
  | d x => exact q _ _ _ _ _ _ r s e' ok trivial
  | raw v => exact q _ _ _ _ _ _ r s e' ok trivial
  | sl i c => exact r.elim
  | new c =>
    cases c with
    | dic _ => exact r.elim
    | lst ds =>
      obtain ⟨p, y, rfl, g1, h1, ok, nf, no⟩ := ok
      obtain ⟨xs, rfl⟩ : ∃ xs, y = .lst xs := by cases y <;> first | exact ⟨_, rfl⟩ | exact ok.elim
      exact q _ _ _ _ _ _ r (s.frz g1 (fr p rfl)) (e'.frz g1 h1 nf no (e.wo.step (s.frz g1 (fr p rfl)))) (.lst upd_same (RpAll.sub (Sub.upd g1) ok)) trivial
theorem XE.mono {R' : RD} (h : XE K te ρ o R) (k : ∀ dv ρ o, R dv ρ o → R' dv ρ o) : XE K te ρ o R' := fun G σ H e Q q => h G σ H e Q fun v dv ρ' o' G' H' r => q v dv ρ' o' G' H' (k _ _ _ r)

/-! ### sequencing -/
/-- an expression, then what its value is for -/
theorem XE.seq {S : VK} {G : Hp} {σ : L2.St} {H : Hp} (h : XE K te ρ o R) (e : En K o ρ G σ H)
    (k : ∀ v dv ρ' o' G' H', R dv ρ' o' → Stp ρ σ o G H ρ' σ o' G' H' → En K o' ρ' G' σ H' → VOk K o' ρ' G' σ H' v dv → VFr ρ σ o H v dv → S v H') : te σ H S := h G σ H e S k
def XR (K : Kx) (r : R2) (a b : DV) (ρ : List Sl) (o : Ob) (R : RD) : Prop :=
  ∀ G σ H x y, En K o ρ G σ H → VOk K o ρ G σ H x a → VOk K o ρ G σ H y b → ∀ Q, XQ K ρ o G σ H R Q → r x y H Q
theorem xe_op {r : R2} (h : XE K ta ρ o fun a ρ1 o1 => XE K tb ρ1 o1 fun b ρ2 o2 => Kept ρ2 a ∧ XR K r a b ρ2 o2 R) : XE K (tOp r ta tb) ρ o R := fun G σ H e Q q =>
  h.seq e fun x a ρ1 o1 G1 H1 r1 s1 e1 ok1 fr1 => XE.seq r1 e1 fun y b ρ2 o2 G2 H2 ⟨kp, r2⟩ s2 e2 ok2 fr2 =>
    r2 G2 σ H2 x y e2 (ok1.step s2 kp) ok2 Q fun v dv ρ' o' G' H' r s e' ok fr => q v dv ρ' o' G' H' r ((s1.trans s2).trans s) e' ok (fr.back (s1.trans s2))
theorem xr_or1 {r r' : R2} {a b : DV} (h : XR K r a b ρ o R) : XR K (fun x y H Q => r x y H Q ∨ r' x y H Q) a b ρ o R := fun G σ H x y e h1 h2 Q q => .inl (h G σ H x y e h1 h2 Q q)
theorem xr_or2 {r r' : R2} {a b : DV} (h : XR K r' a b ρ o R) : XR K (fun x y H Q => r x y H Q ∨ r' x y H Q) a b ρ o R := fun G σ H x y e h1 h2 Q q => .inr (h G σ H x y e h1 h2 Q q)
theorem vok_int {K : PySem.W.Frag} {G σ H x} {n : Int} (h : VOk K o ρ G σ H x (.d (.int n))) : x = .int n := by cases h; rfl
theorem vok_str {K : PySem.W.Frag} {G σ H x} {n : Str} (h : VOk K o ρ G σ H x (.d (.str n))) : x = .str n := by cases h; rfl
theorem vok_bl {K : PySem.W.Frag} {G σ H x} {n : Bool} (h : VOk K o ρ G σ H x (.d (.bool n))) : x = .bl n := by cases h; rfl
theorem vok_non {K : PySem.W.Frag} {G σ H x} (h : VOk K o ρ G σ H x (.d .none)) : x = .non := by cases h; rfl
/-- the result is a datum without an address -/
theorem xq_now {G σ H} {Q : VK} (q : XQ K ρ o G σ H R Q) {v : V} {d : PyData} (e : En K o ρ G σ H) (r : R (.d d) ρ o) (ok : Rp K G v d) : Q v H := q _ _ _ _ _ _ r Stp.refl e ok trivial
theorem xr_i0 {g : Int → Int → Int} {m n : Int} (r : R (.d (.int (g m n))) ρ o) : XR K (rI0 fun i j => .int (g i j)) (.d (.int m)) (.d (.int n)) ρ o R := fun G σ H x y e h1 h2 Q q =>
  ⟨m, n, vok_int h1, vok_int h2, xq_now q e r (.int _)⟩
theorem xr_b0 {g : Int → Int → Bool} {m n : Int} (r : R (.d (.bool (g m n))) ρ o) : XR K (rI0 fun i j => .bl (g i j)) (.d (.int m)) (.d (.int n)) ρ o R := fun G σ H x y e h1 h2 Q q =>
  ⟨m, n, vok_int h1, vok_int h2, xq_now q e r (.bl _)⟩
theorem xr_iC {C : Int → Int → Prop} {g : Int → Int → Int} {m n : Int} (c : C m n) (r : R (.d (.int (g m n))) ρ o) : XR K (rI C fun i j => .int (g i j)) (.d (.int m)) (.d (.int n)) ρ o R := fun G σ H x y e h1 h2 Q q =>
  ⟨m, n, vok_int h1, vok_int h2, c, xq_now q e r (.int _)⟩
theorem xr_catS {m n : Str} (c : m.length + n.length ≤ sizeLine) (r : R (.d (.str (m ++ n))) ρ o) :
    XR K (fun x y H Q => ∃ i j, x = .str i ∧ y = .str j ∧ i.length + j.length ≤ sizeLine ∧ Q (.str (i ++ j)) H) (.d (.str m)) (.d (.str n)) ρ o R := fun G σ H x y e h1 h2 Q q =>
  ⟨m, n, vok_str h1, vok_str h2, c, xq_now q e r (.str _)⟩
/-- a list that may be read -/
def IsL (ρ : List Sl) : DV → List PyData → Prop
  | .d (.list ds), es => ds = es
  | .sl _ (.lst ds), es => ds = es
  | .new (.lst ds), es => ds = es
  | _, _ => False
theorem IsL.at {G : Hp} {σ : L2.St} {H : Hp} {x : V} {dv : DV} {ds : List PyData} (l : IsL ρ dv ds) (e : En K o ρ G σ H) (h : VOk K o ρ G σ H x dv) :
    ∃ p xs, x = .ref p ∧ H p = some (.lst xs) ∧ RpAll K G xs ds := by
  cases dv with
  | d z =>
    cases z <;> try exact l.elim
    cases l
    cases h with
    | lst h1 h2 => exact ⟨_, _, rfl, e.wd.sub _ _ h1, h2⟩
  | raw u => exact l.elim
  | sl i c =>
    cases c with
    | dic _ => exact l.elim
    | lst es =>
      cases l
      obtain ⟨p, y, h1, _, h3, ok, _⟩ := e.own_at h.2
      have hx := h.1
      rw [h1] at hx
      cases hx
      obtain ⟨xs, rfl⟩ : ∃ xs, y = .lst xs := by cases y <;> first | exact ⟨_, rfl⟩ | exact ok.elim
      exact ⟨p, xs, rfl, h3, ok⟩
  | new c =>
    cases c with
    | dic _ => exact l.elim
    | lst es =>
      cases l
      obtain ⟨p, y, rfl, _, h3, ok, _⟩ := h
      obtain ⟨xs, rfl⟩ : ∃ xs, y = .lst xs := by cases y <;> first | exact ⟨_, rfl⟩ | exact ok.elim
      exact ⟨p, xs, rfl, h3, ok⟩
theorem nofp {G σ H} (e : En K o ρ G σ H) {p : Addr} (hp : H p = none) : ¬ o.fp p := fun z => by
  obtain ⟨y, hy⟩ := e.wd.occ p z
  rw [hp] at hy
  cases hy
theorem noown {G σ H} (e : En K o ρ G σ H) {p : Addr} (hp : H p = none) : ¬ Own ρ σ p := fun z => by
  obtain ⟨_, y, hy⟩ := e.occ_own z
  rw [hp] at hy
  cases hy
/-- a fresh list comes -/
theorem xq_new {G σ H} {Q : VK} (q : XQ K ρ o G σ H R Q) {xs : List V} {ds : List PyData} (e : En K o ρ G σ H) (r : R (.new (.lst ds)) ρ o) (ok : RpAll K G xs ds) : ∀ p, H p = none → Q (.ref p) (upd H p (.lst xs)) := fun p hp =>
  q _ _ _ _ _ _ r (Stp.newO hp) (e.newO hp) ⟨p, _, rfl, e.wd.gnone hp, upd_same, ok, nofp e hp, noown e hp⟩ fun p' hp' => by cases hp'; exact .inl hp
/-- a fresh tuple comes -/
theorem xq_tup {G σ H} {Q : VK} (q : XQ K ρ o G σ H R Q) {xs : List V} {ds : List PyData} (e : En K o ρ G σ H) (r : R (.d (.tuple ds)) ρ o) (ok : RpAll K G xs ds) : ∀ p, H p = none → Q (.ref p) (upd H p (.tup xs)) := fun p hp =>
  q _ _ _ _ _ _ r (Stp.newF e.wd hp) (e.newF hp) (.tup (.inl (.inl upd_same)) (RpAll.sub (Sub.upd (e.wd.gnone hp)) ok)) trivial
theorem xr_catL {a b : DV} {m n : List PyData} (ha : IsL ρ a m) (hb : IsL ρ b n) (c : m.length + n.length ≤ sizeLine) (r : R (.new (.lst (m ++ n))) ρ o) : XR K rCat a b ρ o R := fun G σ H x y e h1 h2 Q q => by
  obtain ⟨p, xs, rfl, hp, ok1⟩ := ha.at e h1
  obtain ⟨p', ys, rfl, hp', ok2⟩ := hb.at e h2
  exact ⟨p, p', xs, ys, rfl, rfl, hp, hp', by rw [ok1.len, ok2.len]; exact c, xq_new q e r (ok1.append ok2)⟩

/-! ### arguments -/
theorem xa_nil {R : List DV → RE} (r : R [] ρ o) : XA K tNil ρ o R := fun G σ H e Q q => q _ _ _ _ _ _ r Stp.refl e .nil
theorem xa_cons {R : List DV → RE} (h : XE K ta ρ o fun a ρ1 o1 => XA K T ρ1 o1 fun bs ρ2 o2 => Kept ρ2 a ∧ R (a :: bs) ρ2 o2) : XA K (tCons ta T) ρ o R := fun G σ H e Q q =>
  h.seq e fun x a ρ1 o1 G1 H1 r1 s1 e1 ok1 fr1 => r1 G1 σ H1 e1 _ fun ys bs ρ2 o2 G2 H2 ⟨kp, r2⟩ s2 e2 ok2 =>
    q _ _ _ _ _ _ r2 (s1.trans s2) e2 (.cons (ok1.step s2 kp) ok2)
/-- arguments that are handed on -/
def XAF (K : Kx) (ta : TA) (ρ : List Sl) (o : Ob) (R : List DV → RE) : Prop := XA K ta ρ o fun dvs ρ' o' => (∀ d ∈ dvs, (∃ x, d = .d x) ∨ ∃ v, d = .raw v) ∧ R dvs ρ' o'
theorem XA.mono {R R' : List DV → RE} (h : XA K T ρ o R) (k : ∀ ds ρ' o', R ds ρ' o' → R' ds ρ' o') : XA K T ρ o R' := fun G σ H e Q q => h G σ H e Q fun vs ds ρ' o' G' H' r => q vs ds ρ' o' G' H' (k _ _ _ r)
theorem xaf_nil {R : List DV → RE} (r : R [] ρ o) : XAF K tNil ρ o R := xa_nil ⟨fun _ h => (nomatch h), r⟩
/-- a value that may be handed on -/
def HandR (R : DV → RE) : RD := fun dv ρ o => match dv with
  | .d x => R (.d x) ρ o
  | .raw v => R (.raw v) ρ o
  | _ => False
theorem xaf_cons {R : List DV → RE} (h : XEF K ta ρ o (HandR fun a ρ1 o1 => XAF K T ρ1 o1 fun bs ρ2 o2 => R (a :: bs) ρ2 o2)) : XAF K (tCons ta T) ρ o R := by
  refine xa_cons (XE.mono h fun dv ρ1 o1 r => ?_)
  cases dv with
  | d x => exact XA.mono r fun bs ρ2 o2 ⟨k, r⟩ => ⟨trivial, fun d hd => (List.mem_cons.mp hd).elim (fun z => .inl ⟨x, z⟩) (k d), r⟩
  | raw x => exact XA.mono r fun bs ρ2 o2 ⟨k, r⟩ => ⟨trivial, fun d hd => (List.mem_cons.mp hd).elim (fun z => .inr ⟨x, z⟩) (k d), r⟩
  | sl _ _ => exact False.elim r
  | new _ => exact False.elim r
theorem VAll.data {G σ H} : ∀ {vs : List V} {dvs : List DV} {ds : List PyData}, VAll K o ρ G σ H vs dvs → dvs = ds.map .d → RpAll K G vs ds
  | _, _, [], .nil, _ => .nil
  | _, _, _ :: _, .nil, h => nomatch h
  | _, _, [], .cons _ _, h => nomatch h
  | _, _, d :: ds, .cons a b, h => by
    injection h with h1 h2
    subst h1
    exact .cons a (VAll.data b h2)
/-- a written tuple -/
theorem xe_tup (h : XAF K T ρ o fun dvs ρ' o' => ∃ ds : List PyData, dvs = ds.map .d ∧ ds.length ≤ sizeLine ∧ R (.d (.tuple ds)) ρ' o') : XE K (tTup T) ρ o R := fun G σ H e Q q =>
  h G σ H e _ fun vs dvs ρ' o' G' H' ⟨_, ds, hd, hl, r⟩ s e' ok => by
    have ok' := ok.data hd
    exact ⟨by rw [ok'.len]; exact hl, xq_tup (fun v dv ρ2 o2 G2 H2 r2 s2 e2 ok2 fr => q v dv ρ2 o2 G2 H2 r2 (s.trans s2) e2 ok2 (fr.back s)) e' r ok'⟩
/-- a written list -/
theorem xe_lst (h : XAF K T ρ o fun dvs ρ' o' => ∃ ds : List PyData, dvs = ds.map .d ∧ ds.length ≤ sizeLine ∧ R (.new (.lst ds)) ρ' o') : XE K (tLst T) ρ o R := fun G σ H e Q q =>
  h G σ H e _ fun vs dvs ρ' o' G' H' ⟨_, ds, hd, hl, r⟩ s e' ok => by
    have ok' := ok.data hd
    exact ⟨by rw [ok'.len]; exact hl, xq_new (fun v dv ρ2 o2 G2 H2 r2 s2 e2 ok2 fr => q v dv ρ2 o2 G2 H2 r2 (s.trans s2) e2 ok2 (fr.back s)) e' r ok'⟩

/-! ### tests -/
theorem xt_b (h : XE K te ρ o fun dv ρ' o' => ∃ b, dv = .d (.bool b) ∧ R' b ρ' o') : XT K (tB te) ρ o R' := fun G σ H e Q q =>
  h.seq e fun v dv ρ' o' G' H' ⟨b, hd, r⟩ s e' ok fr => by subst hd; exact ⟨b, vok_bl ok, q _ _ _ _ _ r s e'⟩
theorem xt_test (h : XE K te ρ o fun dv ρ' o' => ∃ b, dv = .d (.bool b) ∧ R' b ρ' o') : XT K (tTest te) ρ o R' := xt_b h
theorem xt_and {t u : TT} {R' : Bool → RE} (h : XT K t ρ o fun b ρ1 o1 => (b = true → XT K u ρ1 o1 R') ∧ (b = false → R' false ρ1 o1)) : XT K (tAnd t u) ρ o R' := fun G σ H e Q q =>
  h G σ H e _ fun b ρ1 o1 G1 H1 ⟨r1, r2⟩ s e1 => by
    cases b with
    | true => exact iteT (r1 rfl G1 σ H1 e1 _ fun b ρ2 o2 G2 H2 r s2 e2 => q _ _ _ _ _ r (s.trans s2) e2)
    | false => exact iteF (q _ _ _ _ _ (r2 rfl) s e1)
theorem xt_or {t u : TT} {R' : Bool → RE} (h : XT K t ρ o fun b ρ1 o1 => (b = true → R' true ρ1 o1) ∧ (b = false → XT K u ρ1 o1 R')) : XT K (tOr t u) ρ o R' := fun G σ H e Q q =>
  h G σ H e _ fun b ρ1 o1 G1 H1 ⟨r1, r2⟩ s e1 => by
    cases b with
    | true => exact iteT (q _ _ _ _ _ (r1 rfl) s e1)
    | false => exact iteF (r2 rfl G1 σ H1 e1 _ fun b ρ2 o2 G2 H2 r s2 e2 => q _ _ _ _ _ r (s.trans s2) e2)
theorem xt_not {t : TT} {R' : Bool → RE} (h : XT K t ρ o fun b ρ1 o1 => R' (!b) ρ1 o1) : XT K (tNot t) ρ o R' := fun G σ H e Q q =>
  h G σ H e _ fun b ρ1 o1 G1 H1 r s e1 => q _ _ _ _ _ r s e1
theorem xe_and (h : XE K ta ρ o fun a ρ1 o1 => ∃ c, a = .d (.bool c) ∧ (c = true → XE K tb ρ1 o1 R) ∧ (c = false → R (.d (.bool false)) ρ1 o1)) : XE K (tAndV ta tb) ρ o R := fun G σ H e Q q =>
  h.seq e fun v dv ρ1 o1 G1 H1 ⟨c, hd, r1, r2⟩ s e1 ok fr => by
    subst hd
    refine ⟨c, vok_bl ok, ?_⟩
    cases c with
    | true => exact iteT (r1 rfl G1 σ H1 e1 _ fun v dv ρ2 o2 G2 H2 r s2 e2 ok fr => q _ _ _ _ _ _ r (s.trans s2) e2 ok (fr.back s))
    | false => exact iteF (q _ _ _ _ _ _ (r2 rfl) s e1 (.bl false) trivial)
theorem xe_or (h : XE K ta ρ o fun a ρ1 o1 => ∃ c, a = .d (.bool c) ∧ (c = true → R (.d (.bool true)) ρ1 o1) ∧ (c = false → XE K tb ρ1 o1 R)) : XE K (tOrV ta tb) ρ o R := fun G σ H e Q q =>
  h.seq e fun v dv ρ1 o1 G1 H1 ⟨c, hd, r1, r2⟩ s e1 ok fr => by
    subst hd
    refine ⟨c, vok_bl ok, ?_⟩
    cases c with
    | true => exact iteT (q _ _ _ _ _ _ (r1 rfl) s e1 (.bl true) trivial)
    | false => exact iteF (r2 rfl G1 σ H1 e1 _ fun v dv ρ2 o2 G2 H2 r s2 e2 ok fr => q _ _ _ _ _ _ r (s.trans s2) e2 ok (fr.back s))
theorem xe_not (h : XE K ta ρ o fun a ρ1 o1 => ∃ c, a = .d (.bool c) ∧ R (.d (.bool (!c))) ρ1 o1) : XE K (tNotV ta) ρ o R := fun G σ H e Q q =>
  h.seq e fun v dv ρ1 o1 G1 H1 ⟨c, hd, r1⟩ s e1 ok fr => by
    subst hd
    exact ⟨c, vok_bl ok, q _ _ _ _ _ _ r1 s e1 (.bl _) trivial⟩
theorem xe_if (h : XT K tt ρ o fun b ρ1 o1 => (b = true → XE K ta ρ1 o1 R) ∧ (b = false → XE K tb ρ1 o1 R)) : XE K (tIf tt ta tb) ρ o R := fun G σ H e Q q =>
  h G σ H e _ fun b ρ1 o1 G1 H1 ⟨r1, r2⟩ s e1 => by
    cases b with
    | true => exact iteT (r1 rfl G1 σ H1 e1 _ fun v dv ρ2 o2 G2 H2 r s2 e2 ok fr => q _ _ _ _ _ _ r (s.trans s2) e2 ok (fr.back s))
    | false => exact iteF (r2 rfl G1 σ H1 e1 _ fun v dv ρ2 o2 G2 H2 r s2 e2 ok fr => q _ _ _ _ _ _ r (s.trans s2) e2 ok (fr.back s))
end

/-! ### targets -/
section
variable {K : Kx} {ρ : List Sl} {o : Ob} {R : RD} {N B C : RE} {te ta tb : TE} {tt : TT} {i : Nat} {T : TA} {t u ts : TS}
theorem lt_of_blt {a b : Nat} (h : Nat.blt a b = true) : a < b := Nat.blt_eq.mp h
theorem xg_nd {d : PyData} (n : N (ρ.set i (.val d)) o) (hi : Nat.blt i ρ.length = true := by rfl) : XG K (gName i) (.d d) ρ o N := fun G σ H v e ok Q q =>
  q _ _ _ _ _ n (e.store (lt_of_blt hi) (s := .val d) ⟨v, rfl, ok⟩ (fun c z => nomatch z)).2 (e.store (lt_of_blt hi) (s := .val d) ⟨v, rfl, ok⟩ (fun c z => nomatch z)).1
theorem xg_nr {u : V} (n : N (ρ.set i (.raw u)) o) (hi : Nat.blt i ρ.length = true := by rfl) : XG K (gName i) (.raw u) ρ o N := fun G σ H v e ok Q q => by
  have ok' : v = u := ok
  subst ok'
  exact q _ _ _ _ _ n (e.store (lt_of_blt hi) (s := .raw v) rfl (fun c z => nomatch z)).2 (e.store (lt_of_blt hi) (s := .raw v) rfl (fun c z => nomatch z)).1
theorem xgs_nil (n : N ρ o) : XGs K gNil [] ρ o N := fun G σ H vs e ok Q q => by
  cases ok
  exact ⟨rfl, q _ _ _ _ _ n Stp.refl e⟩
theorem VAll.steps {ρ' : List Sl} {σ σ' : L2.St} {o' : Ob} {G G' H H' : Hp} {vs : List V} {ds : List PyData} (x : VAll K o ρ G σ H vs (ds.map .d)) (s : Sub G G') : VAll K o' ρ' G' σ' H' vs (ds.map .d) := by
  induction ds generalizing vs with
  | nil => cases x; exact .nil
  | cons d ds ih => cases x with
    | cons h t => exact .cons (Rp.sub s h) (ih t)
theorem xgs_cons {g : TG} {gs : TGs} {d : PyData} {ds : List PyData} (h : XG K g (.d d) ρ o fun ρ1 o1 => XGs K gs (ds.map .d) ρ1 o1 N) : XGs K (gCons g gs) ((d :: ds).map .d) ρ o N := fun G σ H vs e ok Q q => by
  cases ok with
  | cons h1 h2 =>
    exact ⟨_, _, rfl, h G σ H _ e h1 _ fun ρ1 o1 G1 σ1 H1 r s1 e1 => r G1 σ1 H1 _ e1 (VAll.steps h2 s1.g) _ fun ρ2 o2 G2 σ2 H2 r2 s2 e2 => q _ _ _ _ _ r2 (s1.trans s2) e2⟩
theorem RpAll.vall {G : Hp} {σ : L2.St} {H : Hp} : ∀ {vs : List V} {ds : List PyData}, RpAll K G vs ds → VAll K o ρ G σ H vs (ds.map .d)
  | _, _, .nil => .nil
  | _, _, .cons a b => .cons a (RpAll.vall b)
theorem xg_tup {gs : TGs} {n : Nat} {ds : List PyData} (h : XGs K gs (ds.map .d) ρ o N) (hn : ds.length = n := by rfl) : XG K (gTup K n gs) (.d (.tuple ds)) ρ o N := fun G σ H v e ok Q q => by
  cases ok with
  | tup h1 h2 => exact ⟨_, _, rfl, SqT.sub e.wd.sub h1, by rw [h2.len]; exact hn, h G σ H _ e h2.vall Q q⟩

/-! ### statements -/
theorem xs_next (n : N ρ o) : XS K tNext ρ o N R B C := fun G σ H e D qn qr qb qc => qn _ _ _ _ _ n Stp.refl e
theorem xs_break (n : B ρ o) : XS K tBreak ρ o N R B C := fun G σ H e D qn qr qb qc => qb _ _ _ _ _ n Stp.refl e
theorem xs_cont (n : C ρ o) : XS K tCont ρ o N R B C := fun G σ H e D qn qr qb qc => qc _ _ _ _ _ n Stp.refl e
theorem xs_seq (h : XS K t ρ o (fun ρ1 o1 => XS K u ρ1 o1 N R B C) R B C) : XS K (tSeq t u) ρ o N R B C := fun G σ H e D qn qr qb qc =>
  h G σ H e _ (fun ρ1 o1 G1 σ1 H1 r s1 e1 => r G1 σ1 H1 e1 D (fun _ _ _ _ _ n s e => qn _ _ _ _ _ n (s1.trans s) e) (fun _ _ _ _ _ _ _ n s e ok fr => qr _ _ _ _ _ _ _ n (s1.trans s) e ok (fr.back s1))
    (fun _ _ _ _ _ n s e => qb _ _ _ _ _ n (s1.trans s) e) (fun _ _ _ _ _ n s e => qc _ _ _ _ _ n (s1.trans s) e)) qr qb qc
theorem xs_ret (h : XE K te ρ o R) : XS K (tRet te) ρ o N R B C := fun G σ H e D qn qr qb qc => h.seq e fun v dv ρ' o' G' H' r s e' ok fr => qr _ _ _ _ _ _ _ r s e' ok fr
theorem xs_retN (r : R (.d .none) ρ o) : XS K tRetN ρ o N R B C := fun G σ H e D qn qr qb qc => qr _ _ _ _ _ _ _ r Stp.refl e .non trivial
theorem xs_drop (h : XE K te ρ o fun _ ρ' o' => N ρ' o') : XS K (tDrop te) ρ o N R B C := fun G σ H e D qn qr qb qc => h.seq e fun v dv ρ' o' G' H' r s e' ok fr => qn _ _ _ _ _ r s e'
theorem xs_if (h : XT K tt ρ o fun b ρ1 o1 => (b = true → XS K t ρ1 o1 N R B C) ∧ (b = false → XS K u ρ1 o1 N R B C)) : XS K (tIfS tt t u) ρ o N R B C := fun G σ H e D qn qr qb qc =>
  h G σ H e _ fun b ρ1 o1 G1 H1 ⟨r1, r2⟩ s1 e1 => by
    cases b with
    | true => exact iteT (r1 rfl G1 σ H1 e1 D (fun _ _ _ _ _ n s e => qn _ _ _ _ _ n (s1.trans s) e) (fun _ _ _ _ _ _ _ n s e ok fr => qr _ _ _ _ _ _ _ n (s1.trans s) e ok (fr.back s1)) (fun _ _ _ _ _ n s e => qb _ _ _ _ _ n (s1.trans s) e) (fun _ _ _ _ _ n s e => qc _ _ _ _ _ n (s1.trans s) e))
    | false => exact iteF (r2 rfl G1 σ H1 e1 D (fun _ _ _ _ _ n s e => qn _ _ _ _ _ n (s1.trans s) e) (fun _ _ _ _ _ _ _ n s e ok fr => qr _ _ _ _ _ _ _ n (s1.trans s) e ok (fr.back s1)) (fun _ _ _ _ _ n s e => qb _ _ _ _ _ n (s1.trans s) e) (fun _ _ _ _ _ n s e => qc _ _ _ _ _ n (s1.trans s) e))
/-- what a name holds behind an assignment -/
def AsR (i : Nat) (N : RE) : RD := fun dv ρ o => match dv with
  | .d x => N (ρ.set i (.val x)) o
  | .raw v => N (ρ.set i (.raw v)) o
  | .new c => N (ρ.set i (.own c)) o
  | .sl _ _ => False
theorem xs_asg (h : XE K te ρ o fun dv ρ' o' => Nat.blt i ρ'.length = true ∧ AsR i N dv ρ' o') : XS K (tAsg te (gName i)) ρ o N R B C := fun G σ H e D qn qr qb qc =>
  h.seq e fun v dv ρ' o' G' H' ⟨hi, r⟩ s e' ok fr => by
    have hi := lt_of_blt hi
    cases dv with
    | d x => exact qn _ _ _ _ _ r (s.trans (e'.store hi (s := .val x) ⟨v, rfl, ok⟩ (fun c z => nomatch z)).2) (e'.store hi (s := .val x) ⟨v, rfl, ok⟩ (fun c z => nomatch z)).1
    | raw x =>
      have ok' : v = x := ok
      subst ok'
      exact qn _ _ _ _ _ r (s.trans (e'.store hi (s := .raw v) rfl (fun c z => nomatch z)).2) (e'.store hi (s := .raw v) rfl (fun c z => nomatch z)).1
    | sl _ _ => exact False.elim r
    | new c =>
      obtain ⟨p, y, rfl, g1, h1, ok, nf, no⟩ := ok
      exact qn _ _ _ _ _ r (s.storeO (fr p rfl) (by rw [e'.len]; exact hi)) (e'.storeO hi g1 h1 ok nf no (e.wo.step (s.storeO (fr p rfl) (by rw [e'.len]; exact hi))))
/-- an assignment to a target of another form -/
theorem xs_asgG {g : TG} (h : XE K te ρ o (HandR fun dv ρ' o' => XG K g dv ρ' o' N)) : XS K (tAsg te g) ρ o N R B C := fun G σ H e D qn qr qb qc =>
  h.seq e fun v dv ρ' o' G' H' r s e' ok fr => by
    cases dv with
    | d x => exact (show XG K g (.d x) ρ' o' N from r) G' σ H' v e' ok _ fun _ _ _ _ _ n s2 e2 => qn _ _ _ _ _ n (s.trans s2) e2
    | raw x => exact (show XG K g (.raw x) ρ' o' N from r) G' σ H' v e' ok _ fun _ _ _ _ _ n s2 e2 => qn _ _ _ _ _ n (s.trans s2) e2
    | sl _ _ => exact False.elim r
    | new _ => exact False.elim r
theorem xs_augI {g : Int → Int → Int} {a : Int} (hi : ρ[i]? = some (.val (.int a))) (h : XE K te ρ o fun dv ρ' o' => ∃ b, dv = .d (.int b) ∧ Nat.blt i ρ'.length = true ∧ N (ρ'.set i (.val (.int (g a b)))) o') :
    XS K (tAug i te (ipI g)) ρ o N R B C := fun G σ H e D qn qr qb qc => by
  obtain ⟨ov, h1, v, rfl, hv⟩ := e.sl i _ hi
  cases hv
  refine ⟨_, h1, h.seq e fun v dv ρ' o' G' H' ⟨b, hd, hl, n⟩ s e' ok fr => ?_⟩
  subst hd
  exact ⟨a, b, rfl, vok_int ok, qn _ _ _ _ _ n (s.trans (e'.store (lt_of_blt hl) (s := .val (.int (g a b))) ⟨_, rfl, .int _⟩ (fun c z => nomatch z)).2) (e'.store (lt_of_blt hl) (s := .val (.int (g a b))) ⟨_, rfl, .int _⟩ (fun c z => nomatch z)).1⟩

/-! ### loops -/
/-- the state at a loop's head -/
def LoopP (K : Kx) (I : RE) (ρ : List Sl) (σ : L2.St) (o : Ob) (G H : Hp) (σ' : L2.St) (H' : Hp) : Prop :=
  ∃ ρ' o' G', I ρ' o' ∧ Stp ρ σ o G H ρ' σ' o' G' H' ∧ En K o' ρ' G' σ' H'
theorem xs_while {c : TT} {tb : TS} (I : Nat → RE) (m0 : Nat) (h0 : I m0 ρ o) (hs : ∀ m ρ' o', I m ρ' o' → XT K c ρ' o' fun b ρ1 o1 =>
      (b = true → XS K tb ρ1 o1 (fun ρ2 o2 => ∃ m', m' < m ∧ I m' ρ2 o2) R N (fun ρ2 o2 => ∃ m', m' < m ∧ I m' ρ2 o2)) ∧ (b = false → N ρ1 o1)) : XS K (tWhile c tb) ρ o N R B C := fun G σ H e D qn qr qb qc => by
  refine ⟨fun m σ' H' => LoopP K (I m) ρ σ o G H σ' H', ⟨m0, ρ, o, G, h0, Stp.refl, e⟩, ?_⟩
  rintro m σ1 H1 ⟨ρ1, o1, G1, i1, s1, e1⟩
  refine hs m ρ1 o1 i1 G1 σ1 H1 e1 _ fun b ρ2 o2 G2 H2 ⟨r1, r2⟩ s2 e2 => ?_
  have s12 := s1.trans s2
  cases b with
  | false => exact iteF (qn _ _ _ _ _ (r2 rfl) s12 e2)
  | true =>
    refine iteT ⟨fun σ' H' => ∃ m', m' < m ∧ LoopP K (I m') ρ σ o G H σ' H', fun _ _ h => h, ?_⟩
    exact r1 rfl G2 σ1 H2 e2 _ (fun _ _ _ _ _ ⟨m', hm, n⟩ s e => ⟨m', hm, _, _, _, n, s12.trans s, e⟩) (fun _ _ _ _ _ _ _ n s e ok fr => qr _ _ _ _ _ _ _ n (s12.trans s) e ok (fr.back s12))
      (fun _ _ _ _ _ n s e => qn _ _ _ _ _ n (s12.trans s) e) (fun _ _ _ _ _ ⟨m', hm, n⟩ s e => ⟨m', hm, _, _, _, n, s12.trans s, e⟩)
/-- for over a list that stands -/
theorem xs_forL {tl : TE} {g : TG} {tb : TS} (h : XEF K tl ρ o fun dv ρ1 o1 => ∃ ds, dv = .d (.list ds) ∧ ∃ I : Nat → RE, I 0 ρ1 o1 ∧
      (∀ k d ρ' o', ds[k]? = some d → I k ρ' o' → XG K g (.d d) ρ' o' fun ρ2 o2 => XS K tb ρ2 o2 (I (k + 1)) R N (I (k + 1))) ∧ ∀ ρ' o', I ds.length ρ' o' → N ρ' o') : XS K (tFor (iList K tl) g tb) ρ o N R B C := fun G σ H e D qn qr qb qc =>
  XE.seq h e fun v dv ρ1 o1 G1 H1 ⟨ds, hd, I, i0, it, ie⟩ s1 e1 ok fr => by
    subst hd
    cases ok with
    | @lst a xs _ hg hx =>
    refine ⟨a, rfl, ⟨xs, .inl (.inl (e1.wd.sub _ _ hg))⟩, ?_⟩
    refine for_list (xs := xs) (fun k σ' H' => ∃ ρ' o' G', I k ρ' o' ∧ Stp ρ σ o G H ρ' σ' o' G' H' ∧ En K o' ρ' G' σ' H' ∧ Sub G1 G') ⟨ρ1, o1, G1, i0, s1, e1, Sub.refl⟩ (fun k σ' H' _ ⟨ρ', o', G', _, _, e', sb⟩ => .inl (.inl (e'.wd.sub _ _ (sb _ _ hg)))) (fun k x σ' H' hk ⟨ρ', o', G', ik, s', e', sb⟩ => ?_) (fun σ' H' ⟨ρ', o', G', ik, s', e', sb⟩ => ?_)
    · obtain ⟨d, hd, rx⟩ := hx.get hk
      refine it k d ρ' o' hd ik G' σ' H' x e' (Rp.sub sb rx) _ fun ρ2 o2 G2 σ2 H2 r s2 e2 => ?_
      have s12 := s'.trans s2
      exact r G2 σ2 H2 e2 _ (fun _ _ _ _ _ n s e => ⟨_, _, _, n, s12.trans s, e, sb.trans (s2.g.trans s.g)⟩) (fun _ _ _ _ _ _ _ n s e ok fr => qr _ _ _ _ _ _ _ n (s12.trans s) e ok (fr.back s12))
        (fun _ _ _ _ _ n s e => qn _ _ _ _ _ n (s12.trans s) e) (fun _ _ _ _ _ n s e => ⟨_, _, _, n, s12.trans s, e, sb.trans (s2.g.trans s.g)⟩)
    · rw [hx.len] at ik
      exact qn _ _ _ _ _ (ie _ _ ik) s' e'
theorem xs_rng {lo : Int} {n : Nat} {g : TG} {tb : TS} {D : Ends} {G H : Hp} {σ : L2.St} (e : En K o ρ G σ H) (I : Nat → RE) (i0 : I 0 ρ o)
    (it : ∀ k ρ' o', k < n → I k ρ' o' → XG K g (.d (.int (lo + (k : Nat)))) ρ' o' fun ρ2 o2 => XS K tb ρ2 o2 (I (k + 1)) R N (I (k + 1))) (ie : ∀ ρ' o', I n ρ' o' → N ρ' o')
    (qn : ∀ ρ' o' G' σ' H', N ρ' o' → Stp ρ σ o G H ρ' σ' o' G' H' → En K o' ρ' G' σ' H' → D.nx σ' H')
    (qr : ∀ v dv ρ' o' G' σ' H', R dv ρ' o' → Stp ρ σ o G H ρ' σ' o' G' H' → En K o' ρ' G' σ' H' → VOk K o' ρ' G' σ' H' v dv → VFr ρ σ o H v dv → D.rt v H') :
    ∃ W : Nat → Nat → L2.St → Hp → Prop, (∃ m, W 0 m σ H) ∧ ∀ i m σ H, W i m σ H →
      ((Itr lo n).stop i H ∧ D.nx σ H) ∨ ((Itr lo n).go i H ∧ ∃ N : L2.St → Hp → Prop, (∀ σ' H', N σ' H' → ∃ m', m' < m ∧ W (i + 1) m' σ' H') ∧ ∀ x H', (Itr lo n).yld i H x H' → g x σ H' fun σ2 H2 => tb { D with nx := N, ct := N, bk := D.nx } σ2 H2) := by
  refine for_range (fun k σ' H' => LoopP K (I k) ρ σ o G H σ' H') ⟨ρ, o, G, i0, Stp.refl, e⟩ (fun k σ' H' hk ⟨ρ', o', G', ik, s', e'⟩ => ?_) (fun σ' H' ⟨ρ', o', G', ik, s', e'⟩ => qn _ _ _ _ _ (ie _ _ ik) s' e')
  refine it k ρ' o' hk ik G' σ' H' _ e' (.int _) _ fun ρ2 o2 G2 σ2 H2 r s2 e2 => ?_
  have s12 := s'.trans s2
  exact r G2 σ2 H2 e2 _ (fun _ _ _ _ _ n s e => ⟨_, _, _, n, s12.trans s, e⟩) (fun _ _ _ _ _ _ _ n s e ok fr => qr _ _ _ _ _ _ _ n (s12.trans s) e ok (fr.back s12))
        (fun _ _ _ _ _ n s e => qn _ _ _ _ _ n (s12.trans s) e) (fun _ _ _ _ _ n s e => ⟨_, _, _, n, s12.trans s, e⟩)
theorem xs_forR1 {g : TG} {tb : TS} (h : XA K T ρ o fun dvs ρ1 o1 => ∃ j : Int, dvs = [.d (.int j)] ∧ -(2 ^ 62) ≤ j ∧ j < 2 ^ 62 ∧ ∃ I : Nat → RE, I 0 ρ1 o1 ∧
      (∀ k ρ' o', k < j.toNat → I k ρ' o' → XG K g (.d (.int (0 + (k : Nat)))) ρ' o' fun ρ2 o2 => XS K tb ρ2 o2 (I (k + 1)) R N (I (k + 1))) ∧ ∀ ρ' o', I j.toNat ρ' o' → N ρ' o') : XS K (tFor (iRng1 T) g tb) ρ o N R B C := fun G σ H e D qn qr qb qc =>
  h G σ H e _ fun vs dvs ρ1 o1 G1 H1 ⟨j, hd, b1, b2, I, i0, it, ie⟩ s1 e1 ok => by
    subst hd
    cases ok with
    | cons h1 h2 =>
    cases h2
    cases h1
    exact ⟨j, rfl, b1, b2, xs_rng e1 I i0 it ie (fun _ _ _ _ _ n s e => qn _ _ _ _ _ n (s1.trans s) e) (fun _ _ _ _ _ _ _ n s e ok fr => qr _ _ _ _ _ _ _ n (s1.trans s) e ok (fr.back s1))⟩
theorem xs_forR2 {g : TG} {tb : TS} (h : XA K T ρ o fun dvs ρ1 o1 => ∃ i j : Int, dvs = [.d (.int i), .d (.int j)] ∧ (-(2 ^ 62) ≤ i ∧ i < 2 ^ 62 ∧ -(2 ^ 62) ≤ j ∧ j < 2 ^ 62) ∧ ∃ I : Nat → RE, I 0 ρ1 o1 ∧
      (∀ k ρ' o', k < (j - i).toNat → I k ρ' o' → XG K g (.d (.int (i + (k : Nat)))) ρ' o' fun ρ2 o2 => XS K tb ρ2 o2 (I (k + 1)) R N (I (k + 1))) ∧ ∀ ρ' o', I (j - i).toNat ρ' o' → N ρ' o') : XS K (tFor (iRng2 T) g tb) ρ o N R B C := fun G σ H e D qn qr qb qc =>
  h G σ H e _ fun vs dvs ρ1 o1 G1 H1 ⟨i, j, hd, b, I, i0, it, ie⟩ s1 e1 ok => by
    subst hd
    cases ok with
    | cons h1 h2 =>
    cases h2 with
    | cons h2 h3 =>
    cases h3
    cases h1
    cases h2
    exact ⟨i, j, rfl, b, xs_rng e1 I i0 it ie (fun _ _ _ _ _ n s e => qn _ _ _ _ _ n (s1.trans s) e) (fun _ _ _ _ _ _ _ n s e ok fr => qr _ _ _ _ _ _ _ n (s1.trans s) e ok (fr.back s1))⟩
end
end DL

set_option Elab.async false
set_option linter.all false
set_option maxRecDepth 100000
namespace DL
open PySem PySem.Spec PyProof.Rows L2

/-! ### promises -/
abbrev DS := List DV → Ob → (DV → Ob → Prop) → (Ex → Ob → Prop) → Prop
def spD (K : PySem.W.Frag) (S : DS) : Sp := fun vs H Q E => ∃ G o dvs R X, Wd o G H ∧ VAll K o [] G [] H vs dvs ∧ S dvs o R X ∧
  (∀ v dv o' G' H', R dv o' → Stp [] [] o G H [] [] o' G' H' → Wd o' G' H' → VOk K o' [] G' [] H' v dv → VFr [] [] o H v dv → Q v H') ∧
  (∀ cls fs d o' G' H', X (cls, fs) o' → Stp [] [] o G H [] [] o' G' H' → Wd o' G' H' → EOk K G' H' d fs → E cls d H')
theorem noOwn {a : Addr} : ¬ Own [] [] a := fun ⟨i, ⟨c, h⟩, _⟩ => by simp at h
def toSl : DV → Sl
  | .d x => .val x
  | .raw v => .raw v
  | _ => .no
/-- the names at the entry -/
def startD (n : Nat) (dvs : List DV) : List Sl := dvs.map toSl ++ List.replicate (n - dvs.length) .no
theorem startD_own {n : Nat} {dvs : List DV} {i : Nat} {c : Cont} : (startD n dvs)[i]? ≠ some (.own c) := fun h => by
  unfold startD at h
  by_cases hi : i < dvs.length
  · rw [List.getElem?_append_left (by simpa using hi), List.getElem?_map] at h
    cases q : dvs[i]? with
    | none => rw [q] at h; cases h
    | some d => rw [q] at h; cases d <;> cases h
  · rw [List.getElem?_append_right (by simpa using hi), List.getElem?_replicate] at h
    split at h <;> cases h
theorem noOwnS {n : Nat} {dvs : List DV} {σ : L2.St} {a : Addr} : ¬ Own (startD n dvs) σ a := fun ⟨i, ⟨c, h⟩, _⟩ => startD_own h
theorem VAll.len {K : PySem.W.Frag} {o : Ob} {ρ : List Sl} {G : Hp} {σ : L2.St} {H : Hp} : ∀ {vs : List V} {dvs : List DV}, VAll K o ρ G σ H vs dvs → vs.length = dvs.length
  | _, _, .nil => rfl
  | _, _, .cons _ t => congrArg (· + 1) (VAll.len t)
theorem VAll.at {K : PySem.W.Frag} {o : Ob} {ρ : List Sl} {G : Hp} {σ : L2.St} {H : Hp} : ∀ {vs : List V} {dvs : List DV} {i : Nat} {d : DV}, VAll K o ρ G σ H vs dvs → dvs[i]? = some d → ∃ v, vs[i]? = some v ∧ VOk K o ρ G σ H v d
  | _, _, _, _, .nil, e => by simp at e
  | _, _, 0, _, .cons r _, e => by simp at e; subst e; exact ⟨_, rfl, r⟩
  | _, _, i + 1, x, .cons _ t, e => by
    obtain ⟨u, h1, h2⟩ := VAll.at (i := i) (d := x) t (by simpa using e)
    exact ⟨u, by simpa using h1, h2⟩
theorem en_start {K : Kx} {o : Ob} {G H : Hp} {N : List Str} {vs : List V} {dvs : List DV} (w : Wd o G H) (a : VAll K o [] G [] H vs dvs) (wo : WOk K o (startD N.length dvs) G (L2.start N vs) H) : En K o (startD N.length dvs) G (L2.start N vs) H where
  wo := wo
  wd := w
  len := by
    unfold L2.start startD
    rw [List.length_append, List.length_append, List.length_map, List.length_map, List.length_replicate, List.length_replicate, a.len]
  sl := fun i s h => by
    unfold startD at h
    unfold L2.start
    by_cases hi : i < dvs.length
    · have hi' : i < vs.length := by rw [a.len]; exact hi
      rw [List.getElem?_append_left (by simpa using hi), List.getElem?_map] at h
      rw [List.getElem?_append_left (by simpa using hi'), List.getElem?_map]
      cases q : dvs[i]? with
      | none => rw [q] at h; cases h
      | some d =>
        rw [q] at h
        obtain ⟨v, hv, ok⟩ := a.at q
        rw [hv]
        cases h
        refine ⟨some v, rfl, ?_⟩
        cases d with
        | d x => exact ⟨v, rfl, ok⟩
        | raw u => have ok' : v = u := ok; subst ok'; rfl
        | sl _ _ => trivial
        | new _ => trivial
    · rw [List.getElem?_append_right (by simpa using hi), List.getElem?_replicate] at h
      split at h
      · rename_i hlt
        cases h
        have hi2 : ¬ i < vs.length := by rw [a.len]; exact hi
        rw [List.getElem?_append_right (by simpa using hi2), List.getElem?_replicate]
        have hlt' : i - (vs.map some).length < N.length - vs.length := by
          rw [List.length_map] at hlt ⊢
          rw [a.len]
          exact hlt
        rw [if_pos hlt']
        exact ⟨none, rfl, trivial⟩
      · cases h
  dis := fun i j p h _ => by obtain ⟨⟨c, h⟩, _⟩ := h; exact absurd h startD_own
  onf := fun p h => absurd h noOwnS
/-- how a value leaves a def -/
def OutR (R : DV → Ob → Prop) : RD := fun dv _ o => match dv with
  | .d x => R (.d x) o
  | .raw v => R (.raw v) o
  | .new c => R (.new c) o
  | .sl _ c => R (.new c) o
theorem Stp.bare {ρ ρ' : List Sl} {σ σ' : L2.St} {o o' : Ob} {G H G' H' : Hp} (s : Stp ρ σ o G H ρ' σ' o' G' H') (no : ∀ a, ¬ Own ρ σ a) : Stp [] [] o G H [] [] o' G' H' :=
  ⟨s.g, fun a x e h1 _ => s.h a x e h1 (no a), fun a e h h1 _ => s.n a e h h1 (no a), fun a h => (s.f a h).imp id fun q => q.imp id fun z => absurd z (no a), fun a h => absurd h noOwn⟩
section
variable {P : Program} {w : World} {K : PySem.W.Frag} {mg : Str → Option Value} {base : Heap}
/-- the body's end is the call's -/
theorem out_run {K : Kx} {N : List Str} {vs : List V} {dvs : List DV} {o : Ob} {G H : Hp} {R : DV → Ob → Prop} {Q : VK} {t : TS} (wd : Wd o G H) (a : VAll K o [] G [] H vs dvs)
    (q : ∀ v dv o' G' H', R dv o' → Stp [] [] o G H [] [] o' G' H' → Wd o' G' H' → VOk K o' [] G' [] H' v dv → VFr [] [] o H v dv → Q v H')
    (wo : WOk K o (startD N.length dvs) G (L2.start N vs) H)
    (hx : XS K t (startD N.length dvs) o (fun _ o' => R (.d .none) o') (OutR R) (fun _ _ => False) (fun _ _ => False)) : t { nx := fun _ H' => Q .non H', rt := Q } (L2.start N vs) H := by
  refine hx G (L2.start N vs) H (en_start wd a wo) _ (fun ρ' o' G' σ' H' n s e => ?_) (fun v dv ρ' o' G' σ' H' r s e ok fr => ?_) (fun _ _ _ _ _ z => z.elim) (fun _ _ _ _ _ z => z.elim)
  · exact q _ _ _ _ _ n (s.bare fun _ => noOwnS) e.wd .non trivial
  · have sb := s.bare fun _ => noOwnS
    cases dv with
    | d x => exact q _ _ _ _ _ r sb e.wd ok trivial
    | raw u => exact q _ _ _ _ _ r sb e.wd ok trivial
    | new c =>
      obtain ⟨p, y, rfl, g1, h1, ok, nf, _⟩ := ok
      exact q _ _ _ _ _ r sb e.wd ⟨p, y, rfl, g1, h1, ok, nf, noOwn⟩ fun p' hp => (fr p' hp).imp id fun z => z.imp id fun z => absurd z noOwnS
    | sl i c =>
      obtain ⟨p, y, k1, g1, h1, ok', nf⟩ := e.own_at ok.2
      have hv := ok.1
      rw [k1] at hv
      cases hv
      refine q _ _ _ _ _ r sb e.wd ⟨p, y, rfl, g1, h1, ok', nf, noOwn⟩ fun p' hp => ?_
      cases hp
      rcases s.w p ⟨i, ⟨c, ok.2⟩, k1⟩ with z | z | z
      · exact absurd z noOwnS
      · exact .inl z
      · exact .inr (.inl z)
/-- nothing is raised -/
abbrev KN (K : PySem.W.Frag) : Kx := ⟨K, fun _ _ _ _ => False, fun _ _ _ => False⟩
theorem wo_none {K : PySem.W.Frag} {W : WX} {o : Ob} {ρ : List Sl} {G : Hp} {σ : L2.St} {H : Hp} : WOk ⟨K, W, fun _ _ _ => False⟩ o ρ G σ H := fun _ _ _ _ _ _ _ _ z => z.elim
/-- THE RULE for a def, deeply -/
theorem fnD {x qual : Str} {st : Stmt} {f : Addr} {fd : FuncData} {N ps : List Str} {k : Nat} {S : DS} (F : Fun K x qual st f fd) (Sc : FnScope N ps (defScope st))
    (len : ∀ dvs o R X, S dvs o R X → dvs.length = ps.length)
    (hb : ∀ (cdv : Value) (A : Around) (outer : List Env) (s : Shared) (H : Hp) (E : XK), Room k (A.deeper (envOfC qual (defScope st) s.heap.objs.size f cdv)) →
      ∃ t, PSs (cxOf CX0 P w K mg base N qual (defScope st) f cdv A outer s H E).nox (defBody st) t ∧ ∀ dvs o R X, S dvs o R X → XS (KN K) t (startD N.length dvs) o (fun _ o' => R (.d .none) o') (OutR R) (fun _ _ => False) (fun _ _ => False)) :
    FnOk P w K mg base CX0 (k + 1) f fd ps (spD K S) := by
  refine F.ok Sc (fun vs H Q E ⟨G, o, dvs, R, X, _, a, h, _⟩ => by rw [a.len]; exact len dvs o R X h) fun cdv A outer s H vs Q E hr ⟨G, o, dvs, R, X, wd, a, h, q, _⟩ => ?_
  obtain ⟨t, ht, hx⟩ := hb cdv A outer s H E hr
  exact ⟨t, ht, out_run (K := KN K) wd a q wo_none (hx dvs o R X h)⟩
/-- .. for a def that may raise -/
theorem fnDX {x qual : Str} {st : Stmt} {f : Addr} {fd : FuncData} {N ps : List Str} {k : Nat} {S : DS} (F : Fun K x qual st f fd) (Sc : FnScope N ps (defScope st))
    (len : ∀ dvs o R X, S dvs o R X → dvs.length = ps.length)
    (hb : ∀ (cdv : Value) (A : Around) (outer : List Env) (s : Shared) (H : Hp) (E : XK), Room k (A.deeper (envOfC qual (defScope st) s.heap.objs.size f cdv)) →
      ∃ t, PSs (cxOf (L2.CX P w) P w K mg base N qual (defScope st) f cdv A outer s H E) (defBody st) t ∧ ∀ dvs o R X, S dvs o R X → XS ⟨K, fun cls d _ H => E cls d H, fun ex _ o' => X ex o'⟩ t (startD N.length dvs) o (fun _ o' => R (.d .none) o') (OutR R) (fun _ _ => False) (fun _ _ => False)) :
    FnOk P w K mg base (L2.CX P w) (k + 1) f fd ps (spD K S) := by
  refine F.okX Sc (fun vs H Q E ⟨G, o, dvs, R, X, _, a, h, _⟩ => by rw [a.len]; exact len dvs o R X h) fun cdv A outer s H vs Q E hr ⟨G, o, dvs, R, X, wd, a, h, q, qx⟩ => ?_
  obtain ⟨t, ht, hx⟩ := hb cdv A outer s H E hr
  exact ⟨t, ht, out_run (K := ⟨K, fun cls d _ H => E cls d H, fun ex _ o' => X ex o'⟩) wd a q (fun cls fs d ρ' o' G' σ' H' z s e ok => qx cls fs d o' G' H' z (s.bare fun _ => noOwnS) e.wd ok) (hx dvs o R X h)⟩
end

/-! ### calls -/
section
variable {K : Kx} {ρ : List Sl} {o : Ob} {R : RD} {N B C : RE} {te ta tb : TE} {tt : TT} {i : Nat} {T : TA}
theorem VAll.bare {G : Hp} {σ : L2.St} {H : Hp} {vs : List V} {dvs : List DV} (a : VAll K o ρ G σ H vs dvs) (h : ∀ d ∈ dvs, (∃ x, d = .d x) ∨ ∃ v, d = .raw v) : VAll K o [] G [] H vs dvs := by
  induction a with
  | nil => exact .nil
  | cons h1 _ ih =>
    refine .cons ?_ (ih fun d hd => h d (List.mem_cons_of_mem _ hd))
    rcases h _ List.mem_cons_self with ⟨x, rfl⟩ | ⟨v, rfl⟩
    · exact h1
    · exact h1
theorem call_run {S : DS} {E : XK} {Q : VK} {G H : Hp} {σ : L2.St} {G1 H1 : Hp} {ρ1 : List Sl} {o1 : Ob} {vs : List V} {dvs : List DV} (q : XQ K ρ o G σ H R Q) (hd : ∀ d ∈ dvs, (∃ x, d = .d x) ∨ ∃ v, d = .raw v) {Z : Ex → Ob → Prop}
    (r : S dvs o1 (fun dv o2 => R dv ρ1 o2) Z) (hz : ∀ cls fs d o2 G2 H2, Z (cls, fs) o2 → Stp ρ1 σ o1 G1 H1 ρ1 σ o2 G2 H2 → EnB K o2 ρ1 G2 σ H2 → EOk K G2 H2 d fs → E cls d H2)
    (s1 : Stp ρ σ o G H ρ1 σ o1 G1 H1) (e1 : En K o1 ρ1 G1 σ H1) (ok : VAll K o1 ρ1 G1 σ H1 vs dvs) : spD K S vs H1 Q E := by
    have stp : ∀ {o2 G2 H2}, Stp [] [] o1 G1 H1 [] [] o2 G2 H2 → Stp ρ1 σ o1 G1 H1 ρ1 σ o2 G2 H2 := fun {o2 G2 H2} s2 => ⟨s2.g, fun a x ex h1 _ => s2.h a x ex h1 noOwn, fun a ex h h1 _ => s2.n a ex h h1 noOwn, fun a h => (s2.f a h).imp id fun z => z.imp id fun z => absurd z noOwn, fun a h => .inl h⟩
    have en : ∀ {o2 G2 H2}, Stp [] [] o1 G1 H1 [] [] o2 G2 H2 → Wd o2 G2 H2 → En K o2 ρ1 G2 σ H2 := fun {o2 G2 H2} s2 w2 => e1.step (stp s2) w2 fun a ha => by
      obtain ⟨g, y, hy⟩ := e1.occ_own ha
      have nf := e1.onf a ha
      refine ⟨s2.n a g ⟨y, hy⟩ nf noOwn, (s2.h a y hy nf noOwn).trans hy.symm, fun z => ?_⟩
      rcases s2.f a z with q | q | q
      · exact nf q
      · rw [hy] at q; cases q
      · exact noOwn q
    refine ⟨G1, o1, dvs, _, _, e1.wd, ok.bare hd, r, fun v dv o2 G2 H2 r2 s2 w2 ok2 fr => ?_, fun cls fs d o2 G2 H2 z s2 w2 ek => hz cls fs d o2 G2 H2 z (stp s2) (en s2 w2).toEnB ek⟩
    have s2' := stp s2
    have e2 := en s2 w2
    have old : ∀ p, (H1 p = none ∨ o1.fp p ∨ Own [] [] p) → H1 p = none ∨ o1.fp p ∨ Own ρ1 σ p := fun p z => z.imp id fun z => z.imp id fun z => absurd z noOwn
    cases dv with
    | d x => exact q _ _ _ _ _ _ r2 (s1.trans s2') e2 ok2 trivial
    | raw u => exact q _ _ _ _ _ _ r2 (s1.trans s2') e2 ok2 trivial
    | sl _ _ => obtain ⟨z, _⟩ := ok2; simp at z
    | new c =>
      obtain ⟨p, y, rfl, g1, h1, ok, nf, _⟩ := ok2
      refine q _ _ _ _ _ _ r2 (s1.trans s2') e2 ⟨p, y, rfl, g1, h1, ok, nf, fun z => ?_⟩ fun p' hp => ?_
      · obtain ⟨g, y', hy⟩ := e1.occ_own z
        rcases fr p rfl with q | q | q
        · rw [hy] at q; cases q
        · exact e1.onf p z q
        · exact noOwn q
      · cases hp
        exact s1.old (old p (fr p rfl))
theorem xe_call {S : DS} {E : XK} (h : XAF K T ρ o fun dvs ρ1 o1 => S dvs o1 (fun dv o2 => R dv ρ1 o2) (fun _ _ => False)) : XE K (tCall (spD K S) [] E T) ρ o R := fun G σ H e Q q =>
  h G σ H e _ fun vs dvs ρ1 o1 G1 H1 ⟨hd, r⟩ s1 e1 ok => by
    show spD K S (vs ++ []) H1 Q E
    rw [List.append_nil]
    exact call_run q hd r (fun _ _ _ _ _ _ z => z.elim) s1 e1 ok
/-- a call that may raise -/
theorem xe_callS {S : DS} (h : XAF K T ρ o fun dvs ρ1 o1 => S dvs o1 (fun dv o2 => R dv ρ1 o2) (fun ex o2 => K.Z ex ρ1 o2)) : XE K (tCallS (spD K S) (WE K.W) T) ρ o R := fun G σ H e Q q =>
  h G σ H e _ fun vs dvs ρ1 o1 G1 H1 ⟨hd, r⟩ s1 e1 ok => call_run q hd r (fun cls fs d o2 G2 H2 z s2 e2 ek => e1.wo cls fs d ρ1 o2 G2 σ H2 z s2 e2 ek) s1 e1 ok
/-- a built-in by the values -/
def XC (K : Kx) (r : List V → Hp → VK → Prop) (dvs : List DV) (ρ : List Sl) (o : Ob) (R : RD) : Prop :=
  ∀ G σ H vs, En K o ρ G σ H → VAll K o ρ G σ H vs dvs → ∀ Q, XQ K ρ o G σ H R Q → r vs H Q
theorem xe_cb {r : List V → Hp → VK → Prop} (h : XA K T ρ o fun dvs ρ1 o1 => XC K r dvs ρ1 o1 R) : XE K (tCB r T) ρ o R := fun G σ H e Q q =>
  h G σ H e _ fun vs dvs ρ1 o1 G1 H1 r1 s1 e1 ok => r1 G1 σ H1 vs e1 ok Q fun v dv ρ2 o2 G2 H2 r s e ok fr => q _ _ _ _ _ _ r (s1.trans s) e ok (fr.back s1)
theorem xc_or1 {r r' : List V → Hp → VK → Prop} {a : List DV} (h : XC K r a ρ o R) : XC K (fun x H Q => r x H Q ∨ r' x H Q) a ρ o R := fun G σ H x e h1 Q q => .inl (h G σ H x e h1 Q q)
theorem xc_or2 {r r' : List V → Hp → VK → Prop} {a : List DV} (h : XC K r' a ρ o R) : XC K (fun x H Q => r x H Q ∨ r' x H Q) a ρ o R := fun G σ H x e h1 Q q => .inr (h G σ H x e h1 Q q)
theorem va1 {G : Hp} {σ : L2.St} {H : Hp} {vs : List V} {d : DV} (a : VAll K o ρ G σ H vs [d]) : ∃ v, vs = [v] ∧ VOk K o ρ G σ H v d := by
  cases a with
  | cons h t => cases t; exact ⟨_, rfl, h⟩
theorem va2 {G : Hp} {σ : L2.St} {H : Hp} {vs : List V} {d e : DV} (a : VAll K o ρ G σ H vs [d, e]) : ∃ v u, vs = [v, u] ∧ VOk K o ρ G σ H v d ∧ VOk K o ρ G σ H u e := by
  cases a with
  | cons h t => obtain ⟨u, rfl, k⟩ := va1 t; exact ⟨_, _, rfl, h, k⟩
theorem xc_lenS {z : Str} (c : z.length ≤ sizeLine) (r : R (.d (.int z.length)) ρ o) : XC K (fun xs H Q => ∃ x n, xs = [x] ∧ LenV K x H n ∧ Q (.int (n : Nat)) H) [.d (.str z)] ρ o R := fun G σ H vs e h0 Q q => by
  obtain ⟨v, rfl, h⟩ := va1 h0
  cases vok_str h
  exact ⟨_, z.length, rfl, ⟨c, rfl⟩, xq_now q e r (.int _)⟩
theorem xc_lenL {d : DV} {ds : List PyData} (l : IsL ρ d ds) (r : R (.d (.int ds.length)) ρ o) : XC K (fun xs H Q => ∃ x n, xs = [x] ∧ LenV K x H n ∧ Q (.int (n : Nat)) H) [d] ρ o R := fun G σ H vs e h0 Q q => by
  obtain ⟨v, rfl, h⟩ := va1 h0
  obtain ⟨p, xs, rfl, hp, ok⟩ := l.at e h
  refine ⟨_, xs.length, rfl, .inl ⟨xs, .inl (.inl hp), rfl⟩, ?_⟩
  rw [ok.len]
  exact xq_now q e r (.int _)
theorem xc_lenT {ds : List PyData} (r : R (.d (.int ds.length)) ρ o) : XC K (fun xs H Q => ∃ x n, xs = [x] ∧ LenV K x H n ∧ Q (.int (n : Nat)) H) [.d (.tuple ds)] ρ o R := fun G σ H vs e h0 Q q => by
  obtain ⟨v, rfl, h⟩ := va1 h0
  cases h with
  | @tup a xs _ h1 h2 =>
  refine ⟨_, xs.length, rfl, .inr ⟨xs, SqT.sub e.wd.sub h1, rfl⟩, ?_⟩
  rw [h2.len]
  exact xq_now q e r (.int _)
theorem xc_min2 {a b : Int} (r : R (.d (.int (if b < a then b else a))) ρ o) : XC K (fun xs H Q => ∃ i j, xs = [.int i, .int j] ∧ Q (.int (if j < i then j else i)) H) [.d (.int a), .d (.int b)] ρ o R := fun G σ H vs e h Q q => by
  obtain ⟨v, u, rfl, h1, h2⟩ := va2 h
  cases vok_int h1
  cases vok_int h2
  exact ⟨a, b, rfl, xq_now q e r (.int _)⟩
theorem xc_max2 {a b : Int} (r : R (.d (.int (if b > a then b else a))) ρ o) : XC K (fun xs H Q => ∃ i j, xs = [.int i, .int j] ∧ Q (.int (if j > i then j else i)) H) [.d (.int a), .d (.int b)] ρ o R := fun G σ H vs e h Q q => by
  obtain ⟨v, u, rfl, h1, h2⟩ := va2 h
  cases vok_int h1
  cases vok_int h2
  exact ⟨a, b, rfl, xq_now q e r (.int _)⟩
theorem xc_sum {d : DV} {ns : List Int} (l : IsL ρ d (ns.map .int)) (r : R (.d (.int ns.sum)) ρ o) : XC K (rSum K) [d] ρ o R := fun G σ H vs e h0 Q q => by
  obtain ⟨v, rfl, h⟩ := va1 h0
  obtain ⟨p, xs, rfl, hp, ok⟩ := l.at e h
  refine ⟨p, ns, rfl, ?_, xq_now q e r (.int _)⟩
  rw [← ok.of_ints]
  exact .inl (.inl hp)

/-! ### methods -/
def TyD (T : String) : DV → Prop
  | .d (.str _) => T = "str"
  | .d (.list _) => T = "list"
  | .sl _ (.lst _) => T = "list"
  | .new (.lst _) => T = "list"
  | _ => False
theorem TyD.ok {T : String} {d : DV} (t : TyD T d) {G : Hp} {σ : L2.St} {H : Hp} {x : V} (e : En K o ρ G σ H) (h : VOk K o ρ G σ H x d) : tyV K T x H := by
  have lst : ∀ {d : DV} {ds : List PyData}, IsL ρ d ds → T = "list" → VOk K o ρ G σ H x d → tyV K T x H := fun {d ds} l ht h => by
    obtain ⟨p, xs, rfl, hp, _⟩ := l.at e h
    exact .inl ⟨ht, xs, .inl (.inl hp)⟩
  cases d with
  | d z => cases z <;> first | exact t.elim | (cases vok_str h; exact t) | exact lst (d := .d (.list _)) rfl t h
  | raw _ => exact t.elim
  | sl i c => cases c <;> first | exact t.elim | exact lst (d := .sl _ (.lst _)) rfl t h
  | new c => cases c <;> first | exact t.elim | exact lst (d := .new (.lst _)) rfl t h
def XM (K : Kx) (r : V → List V → Hp → VK → Prop) (a : DV) (bs : List DV) (ρ : List Sl) (o : Ob) (R : RD) : Prop :=
  ∀ G σ H x vs, En K o ρ G σ H → VOk K o ρ G σ H x a → VAll K o ρ G σ H vs bs → ∀ Q, XQ K ρ o G σ H R Q → r x vs H Q
theorem xe_bm {Ty : String} {r : V → List V → Hp → VK → Prop} {to : TE} (h : XE K to ρ o fun a ρ1 o1 => TyD Ty a ∧ XA K T ρ1 o1 fun bs ρ2 o2 => Kept ρ2 a ∧ XM K r a bs ρ2 o2 R) : XE K (tBM K Ty r to T) ρ o R := fun G σ H e Q q =>
  h.seq e fun x a ρ1 o1 G1 H1 ⟨ty, r1⟩ s1 e1 ok1 fr1 => ⟨ty.ok e1 ok1, r1 G1 σ H1 e1 _ fun vs bs ρ2 o2 G2 H2 ⟨kp, r2⟩ s2 e2 ok2 =>
    r2 G2 σ H2 x vs e2 (ok1.step s2 kp) ok2 Q fun v dv ρ3 o3 G3 H3 r s e ok fr => q _ _ _ _ _ _ r ((s1.trans s2).trans s) e ok (fr.back (s1.trans s2))⟩
theorem xe_bmF {Ty : String} {r : V → List V → Hp → VK → Prop} {to : TE} (h : XE K to ρ o fun a ρ1 o1 => TyD Ty a ∧ XAF K T ρ1 o1 fun bs ρ2 o2 => Kept ρ2 a ∧ XM K r a bs ρ2 o2 R) : XE K (tBM K Ty r to T) ρ o R :=
  xe_bm (XE.mono h fun a ρ1 o1 ⟨ty, h⟩ => ⟨ty, XA.mono h fun bs ρ2 o2 ⟨_, h⟩ => h⟩)
theorem xe_bm0 {Ty : String} {r : V → List V → Hp → VK → Prop} {to : TE} (h : XE K to ρ o fun a ρ1 o1 => TyD Ty a ∧ XM K r a [] ρ1 o1 R) : XE K (tBM0 K Ty r to) ρ o R := fun G σ H e Q q =>
  h.seq e fun x a ρ1 o1 G1 H1 ⟨ty, r1⟩ s1 e1 ok1 fr1 => ⟨ty.ok e1 ok1, r1 G1 σ H1 x [] e1 ok1 .nil Q fun v dv ρ3 o3 G3 H3 r s e ok fr => q _ _ _ _ _ _ r (s1.trans s) e ok (fr.back s1)⟩
theorem xm_append {ds : List PyData} {d : PyData} (c : ds.length < sizeLine) (h : ρ[i]? = some (.own (.lst ds))) (r : R (.d .none) (ρ.set i (.own (.lst (ds ++ [d])))) o) : XM K rAppend (.sl i (.lst ds)) [.d d] ρ o R := fun G σ H x vs e hx hv0 Q q => by
  obtain ⟨v, rfl, hv⟩ := va1 hv0
  obtain ⟨p, y, k1, g1, h1, ok, nf⟩ := e.own_at hx.2
  have hs := hx.1
  rw [k1] at hs
  cases hs
  obtain ⟨xs, rfl⟩ : ∃ xs, y = .lst xs := by cases y <;> first | exact ⟨_, rfl⟩ | exact ok.elim
  have ok : RpAll K G xs ds := ok
  have ok2 : COk K G (.lst (xs ++ [v])) (.lst (ds ++ [d])) := ok.append (.cons hv .nil)
  exact ⟨p, xs, v, rfl, rfl, h1, by rw [ok.len]; exact c, q _ _ _ _ _ _ r (e.mut hx.2 k1 ok2).2 (e.mut hx.2 k1 ok2).1 .non trivial⟩
theorem xm_pop {ds : List PyData} {d : PyData} (c : ds[ds.length - 1]? = some d) (h : ρ[i]? = some (.own (.lst ds))) (r : R (.d d) (ρ.set i (.own (.lst ds.dropLast))) o) : XM K rPop (.sl i (.lst ds)) [] ρ o R := fun G σ H x vs e hx hv Q q => by
  cases hv
  obtain ⟨p, y, k1, g1, h1, ok, nf⟩ := e.own_at hx.2
  have hs := hx.1
  rw [k1] at hs
  cases hs
  obtain ⟨xs, rfl⟩ : ∃ xs, y = .lst xs := by cases y <;> first | exact ⟨_, rfl⟩ | exact ok.elim
  have ok : RpAll K G xs ds := ok
  have ok2 : COk K G (.lst xs.dropLast) (.lst ds.dropLast) := by
    show RpAll K G _ _
    rw [List.dropLast_eq_take, List.dropLast_eq_take, ok.len]
    exact ok.take _
  obtain ⟨v, hv, rv⟩ := ok.get' c
  exact ⟨p, xs, v, rfl, rfl, h1, by rw [ok.len]; exact hv, q _ _ _ _ _ _ r (e.mut hx.2 k1 ok2).2 (e.mut hx.2 k1 ok2).1 rv trivial⟩
theorem xm_split {a b : Str} (h1 : (b.length == 0) = false) (h2 : a.length + 2 ≤ sizeLine) (r : R (.new (.lst ((Txt.split a b).map .str))) ρ o) :
    XM K (fun x xs H Q => ∃ a b, x = .str a ∧ xs = [.str b] ∧ (b.length == 0) = false ∧ a.length + 2 ≤ sizeLine ∧ rNewStrs (Txt.split a b) H Q) (.d (.str a)) [.d (.str b)] ρ o R := fun G σ H x vs e hx hv0 Q q => by
  obtain ⟨v, rfl, hv⟩ := va1 hv0
  cases vok_str hx
  cases vok_str hv
  exact ⟨a, b, rfl, rfl, h1, h2, xq_new q e r RpAll.strs⟩
/-- a text's method of one text: a number comes -/
theorem xm_s1i {f : Str → Str → Int} {a b : Str} (r : R (.d (.int (f a b))) ρ o) : XM K (fun x xs H Q => ∃ a b, x = .str a ∧ xs = [.str b] ∧ Q (.int (f a b)) H) (.d (.str a)) [.d (.str b)] ρ o R := fun G σ H x vs e hx hv0 Q q => by
  obtain ⟨v, rfl, hv⟩ := va1 hv0
  cases vok_str hx
  cases vok_str hv
  exact ⟨a, b, rfl, rfl, xq_now q e r (.int _)⟩
theorem xm_s2i {f : Str → Str → Int → Int} {a b : Str} {n : Int} (r : R (.d (.int (f a b n))) ρ o) : XM K (fun x xs H Q => ∃ (a b : Str) (i : Int), x = .str a ∧ xs = [.str b, .int i] ∧ Q (.int (f a b i)) H) (.d (.str a)) [.d (.str b), .d (.int n)] ρ o R := fun G σ H x vs e hx hv0 Q q => by
  obtain ⟨v, u, rfl, hv, hu⟩ := va2 hv0
  cases vok_str hx
  cases vok_str hv
  cases vok_int hu
  exact ⟨a, b, n, rfl, rfl, xq_now q e r (.int _)⟩

/-! ### subscripts, slices -/
theorem atI_rep {G : Hp} {xs : List V} {ds : List PyData} (ok : RpAll K G xs ds) {n : Int} {d : PyData} (h : atI ds n = some d) : ∃ x, atI xs n = some x ∧ Rp K G x d := by
  unfold atI at h ⊢
  rw [ok.len]
  cases q : ixN ds.length n with
  | none => rw [q] at h; cases h
  | some j =>
    rw [q] at h
    exact ok.get' h
theorem xr_ixL {a : DV} {ds : List PyData} {n : Int} {d : PyData} (l : IsL ρ a ds) (h : atI ds n = some d) (r : R (.d d) ρ o) : XR K (rIx K) a (.d (.int n)) ρ o R := fun G σ H x y e h1 h2 Q q => by
  obtain ⟨p, xs, rfl, hp, ok⟩ := l.at e h1
  cases vok_int h2
  obtain ⟨v, hv, rv⟩ := atI_rep ok h
  exact .inl ⟨p, xs, n, v, rfl, rfl, .inl (.inl hp), hv, xq_now q e r rv⟩
theorem xr_ixT {ds : List PyData} {n : Int} {d : PyData} (h : atI ds n = some d) (r : R (.d d) ρ o) : XR K (rIx K) (.d (.tuple ds)) (.d (.int n)) ρ o R := fun G σ H x y e h1 h2 Q q => by
  cases h1 with
  | @tup p xs _ hp ok =>
  cases vok_int h2
  obtain ⟨v, hv, rv⟩ := atI_rep ok h
  exact .inr (.inl ⟨p, xs, n, v, rfl, rfl, SqT.sub e.wd.sub hp, hv, xq_now q e r rv⟩)
theorem xr_ixS {z : Str} {n : Int} {c : Nat} (hl : z.length ≤ sizeLine) (h : atI z.cps.toList n = some c) (r : R (.d (.str ⟨#[c]⟩)) ρ o) : XR K (rIx K) (.d (.str z)) (.d (.int n)) ρ o R := fun G σ H x y e h1 h2 Q q => by
  cases vok_str h1
  cases vok_int h2
  exact .inr (.inr ⟨z, n, c, rfl, rfl, hl, h, xq_now q e r (.str _)⟩)
/-- a part of a slice -/
def XO (K : Kx) (to : TO) (ρ : List Sl) (o : Ob) (R : Option Int → RE) : Prop :=
  ∀ G σ H, En K o ρ G σ H → ∀ Q : Option Int → Hp → Prop, (∀ b ρ' o' G' H', R b ρ' o' → Stp ρ σ o G H ρ' σ o' G' H' → En K o' ρ' G' σ H' → Q b H') → to σ H Q
theorem xo_no {R : Option Int → RE} (r : R none ρ o) : XO K tNoPart ρ o R := fun G σ H e Q q => q _ _ _ _ _ r Stp.refl e
theorem xo_part {R : Option Int → RE} (h : XE K te ρ o fun dv ρ1 o1 => ∃ n, dv = .d (.int n) ∧ R (some n) ρ1 o1) : XO K (tPart te) ρ o R := fun G σ H e Q q =>
  h.seq e fun v dv ρ1 o1 G1 H1 ⟨n, hd, r⟩ s1 e1 ok fr => by subst hd; exact ⟨n, vok_int ok, q _ _ _ _ _ r s1 e1⟩
def XSl (K : Kx) (r : V → Option Int → Option Int → Hp → VK → Prop) (a : DV) (l u : Option Int) (ρ : List Sl) (o : Ob) (R : RD) : Prop :=
  ∀ G σ H x, En K o ρ G σ H → VOk K o ρ G σ H x a → ∀ Q, XQ K ρ o G σ H R Q → r x l u H Q
theorem xe_sl {r : V → Option Int → Option Int → Hp → VK → Prop} {tl th : TO} (h : XE K te ρ o fun a ρ1 o1 => XO K tl ρ1 o1 fun l ρ2 o2 => XO K th ρ2 o2 fun u ρ3 o3 => Kept ρ3 a ∧ XSl K r a l u ρ3 o3 R) : XE K (tSl r te tl th) ρ o R := fun G σ H e Q q =>
  h.seq e fun x a ρ1 o1 G1 H1 r1 s1 e1 ok1 fr1 => r1 G1 σ H1 e1 _ fun l ρ2 o2 G2 H2 r2 s2 e2 => r2 G2 σ H2 e2 _ fun u ρ3 o3 G3 H3 ⟨kp, r3⟩ s3 e3 =>
    r3 G3 σ H3 x e3 (ok1.step (s2.trans s3) kp) Q fun v dv ρ4 o4 G4 H4 r s e ok fr => q _ _ _ _ _ _ r ((s1.trans (s2.trans s3)).trans s) e ok (fr.back (s1.trans (s2.trans s3)))
theorem xsl_or1 {r r' : V → Option Int → Option Int → Hp → VK → Prop} {a : DV} {l u : Option Int} (h : XSl K r a l u ρ o R) : XSl K (fun x lo hi H Q => r x lo hi H Q ∨ r' x lo hi H Q) a l u ρ o R := fun G σ H x e h1 Q q => .inl (h G σ H x e h1 Q q)
theorem xsl_or2 {r r' : V → Option Int → Option Int → Hp → VK → Prop} {a : DV} {l u : Option Int} (h : XSl K r' a l u ρ o R) : XSl K (fun x lo hi H Q => r x lo hi H Q ∨ r' x lo hi H Q) a l u ρ o R := fun G σ H x e h1 Q q => .inr (h G σ H x e h1 Q q)
theorem xsl_str {z : Str} {l u : Option Int} (hl : z.length ≤ sizeLine) (r : R (.d (.str (cutS z l u))) ρ o) : XSl K rSlS (.d (.str z)) l u ρ o R := fun G σ H x e h1 Q q => by
  cases vok_str h1
  exact ⟨z, rfl, hl, xq_now q e r (.str _)⟩
/-- a slice of data -/
def cutD (xs : List PyData) (lo hi : Option Int) : List PyData := (xs.drop (HT.sIx xs.length 0 lo)).take (HT.sIx xs.length xs.length hi - HT.sIx xs.length 0 lo)
theorem cut_rep {G : Hp} {xs : List V} {ds : List PyData} (ok : RpAll K G xs ds) (l u : Option Int) : RpAll K G (cutV xs l u) (cutD ds l u) := by
  unfold cutV cutD
  rw [ok.len]
  exact (ok.drop _).take _
theorem xsl_list {a : DV} {ds : List PyData} {l u : Option Int} (hl : IsL ρ a ds) (r : R (.new (.lst (cutD ds l u))) ρ o) : XSl K (rSlL K) a l u ρ o R := fun G σ H x e h1 Q q => by
  obtain ⟨p, xs, rfl, hp, ok⟩ := hl.at e h1
  exact ⟨p, xs, rfl, .inl (.inl hp), xq_new q e r (cut_rep ok l u)⟩

/-! ### more loops -/
/-- for over a text -/
theorem xs_forS {tl : TE} {g : TG} {tb : TS} (h : XE K tl ρ o fun dv ρ1 o1 => ∃ z, dv = .d (.str z) ∧ ∃ I : Nat → RE, I 0 ρ1 o1 ∧
      (∀ k c ρ' o', z.cps[k]? = some c → I k ρ' o' → XG K g (.d (.str ⟨#[c]⟩)) ρ' o' fun ρ2 o2 => XS K tb ρ2 o2 (I (k + 1)) R N (I (k + 1))) ∧ ∀ ρ' o', I z.cps.size ρ' o' → N ρ' o') : XS K (tFor (iStr tl) g tb) ρ o N R B C := fun G σ H e D qn qr qb qc =>
  XE.seq h e fun v dv ρ1 o1 G1 H1 ⟨z, hd, I, i0, it, ie⟩ s1 e1 ok fr => by
    subst hd
    cases vok_str ok
    refine ⟨z, rfl, fun k m σ' H' => m = z.cps.size - k ∧ k ≤ z.cps.size ∧ LoopP K (I k) ρ σ o G H σ' H', ⟨_, rfl, Nat.zero_le _, ρ1, o1, G1, i0, s1, e1⟩, ?_⟩
    rintro k m σ1 H2 ⟨rfl, hk, ρ', o', G', ik, s', e'⟩
    by_cases hlt : k < z.cps.size
    · refine .inr ⟨hlt, LoopP K (I (k + 1)) ρ σ o G H, fun σ' H' p => ⟨z.cps.size - (k + 1), by omega, rfl, hlt, p⟩, fun x H3 y => ?_⟩
      obtain ⟨rfl, c, hc, rfl⟩ := y
      refine it k c ρ' o' hc ik G' σ1 _ _ e' (.str _) _ fun ρ2 o2 G2 σ2 H4 r s2 e2 => ?_
      have s12 := s'.trans s2
      exact r G2 σ2 H4 e2 _ (fun _ _ _ _ _ n s e => ⟨_, _, _, n, s12.trans s, e⟩) (fun _ _ _ _ _ _ _ n s e ok fr => qr _ _ _ _ _ _ _ n (s12.trans s) e ok (fr.back s12))
        (fun _ _ _ _ _ n s e => qn _ _ _ _ _ n (s12.trans s) e) (fun _ _ _ _ _ n s e => ⟨_, _, _, n, s12.trans s, e⟩)
    · have ek : k = z.cps.size := by omega
      subst ek
      exact .inl ⟨Nat.le_refl _, qn _ _ _ _ _ (ie _ _ ik) s' e'⟩
/-- for over zip of two lists -/
theorem xs_forZ {g : TG} {tb : TS} (h : XAF K T ρ o fun dvs ρ1 o1 => ∃ ds es, dvs = [.d (.list ds), .d (.list es)] ∧ ∃ I : Nat → RE, I 0 ρ1 o1 ∧
      (∀ k d d' ρ' o', ds[k]? = some d → es[k]? = some d' → I k ρ' o' → XG K g (.d (.tuple [d, d'])) ρ' o' fun ρ2 o2 => XS K tb ρ2 o2 (I (k + 1)) R N (I (k + 1))) ∧ ∀ ρ' o', I (min ds.length es.length) ρ' o' → N ρ' o') :
    XS K (tFor (iZip K T) g tb) ρ o N R B C := fun G σ H e D qn qr qb qc =>
  h G σ H e _ fun vs dvs ρ1 o1 G1 H1 ⟨_, ds, es, hd, I, i0, it, ie⟩ s1 e1 ok => by
    subst hd
    obtain ⟨v, u, rfl, h1, h2⟩ := va2 ok
    cases h1 with
    | @lst a xs _ hg hx =>
    cases h2 with
    | @lst b ys _ hg' hy =>
    refine ⟨a, b, xs, ys, rfl, .inl (.inl (e1.wd.sub _ _ hg)), .inl (.inl (e1.wd.sub _ _ hg')), ?_⟩
    refine ⟨fun k m σ' H' => m = min ds.length es.length - k ∧ k ≤ min ds.length es.length ∧ ∃ ρ' o' G', I k ρ' o' ∧ Stp ρ σ o G H ρ' σ' o' G' H' ∧ En K o' ρ' G' σ' H' ∧ Sub G1 G', ⟨_, rfl, Nat.zero_le _, ρ1, o1, G1, i0, s1, e1, Sub.refl⟩, ?_⟩
    rintro k m σ1 H2 ⟨rfl, hk, ρ', o', G', ik, s', e', sb⟩
    have qa : SqL K H2 a xs := .inl (.inl (e'.wd.sub _ _ (sb _ _ hg)))
    have qb' : SqL K H2 b ys := .inl (.inl (e'.wd.sub _ _ (sb _ _ hg')))
    by_cases hlt : k < min ds.length es.length
    · have l1 : k < xs.length := by rw [hx.len]; omega
      have l2 : k < ys.length := by rw [hy.len]; omega
      refine .inr ⟨⟨xs, ys, xs[k], ys[k], qa, qb', List.getElem?_eq_getElem l1, List.getElem?_eq_getElem l2⟩, fun σ' H' => ∃ ρ' o' G', I (k + 1) ρ' o' ∧ Stp ρ σ o G H ρ' σ' o' G' H' ∧ En K o' ρ' G' σ' H' ∧ Sub G1 G', fun σ' H' p => ⟨min ds.length es.length - (k + 1), by omega, rfl, hlt, p⟩, fun x H3 y => ?_⟩
      obtain ⟨T, x, y, rfl, hT, rfl, hxx, hyy⟩ := y
      obtain ⟨d, hd, rx⟩ := hx.get (hxx _ qa)
      obtain ⟨d', hd', ry⟩ := hy.get (hyy _ qb')
      have gT := e'.wd.gnone hT
      have sT : Stp ρ' σ1 o' G' H2 ρ' σ1 o' (upd G' T (.tup [x, y])) (upd H2 T (.tup [x, y])) := Stp.newF e'.wd hT
      have sb2 := sb.trans (Sub.upd gT (o := .tup [x, y]))
      refine it k d d' ρ' o' hd hd' ik _ σ1 _ (.ref T) (e'.newF hT) (.tup (.inl (.inl upd_same)) (.cons (Rp.sub sb2 rx) (.cons (Rp.sub sb2 ry) .nil))) _ fun ρ2 o2 G2 σ2 H4 r s2 e2 => ?_
      have s12 := (s'.trans sT).trans s2
      exact r G2 σ2 H4 e2 _ (fun _ _ _ _ _ n s e => ⟨_, _, _, n, s12.trans s, e, sb2.trans (s2.g.trans s.g)⟩) (fun _ _ _ _ _ _ _ n s e ok fr => qr _ _ _ _ _ _ _ n (s12.trans s) e ok (fr.back s12))
        (fun _ _ _ _ _ n s e => qn _ _ _ _ _ n (s12.trans s) e) (fun _ _ _ _ _ n s e => ⟨_, _, _, n, s12.trans s, e, sb2.trans (s2.g.trans s.g)⟩)
    · have ek : k = min ds.length es.length := by omega
      subst ek
      refine .inl ⟨⟨xs, ys, qa, qb', ?_⟩, qn _ _ _ _ _ (ie _ _ ik) s' e'⟩
      rw [hx.len, hy.len]
      omega
end
end DL

set_option Elab.async false
set_option linter.all false
set_option maxRecDepth 100000
namespace DL
open PySem PySem.Spec PyProof.Rows L2

/-! ### operators that look at their values -/
def rAddU (K : PySem.W.Frag) : R2 := fun x y H Q => rI0 (fun i j => .int (i + j)) x y H Q ∨ (fun x y H Q => (∃ i j, x = V.str i ∧ y = V.str j ∧ i.length + j.length ≤ sizeLine ∧ Q (V.str (i ++ j)) H) ∨ (rCat x y H Q ∨ rCatT K x y H Q)) x y H Q
theorem op_addU {X : Cx} : OpR X (binaryOp .Add) (rAddU X.K) := op_add.or (op_add_str.or (op_cat.or op_catT))
def rEqU (K : PySem.W.Frag) : R2 := fun x y H Q => rEq x y H Q ∨ rEqD K x y H Q
def rNeU (K : PySem.W.Frag) : R2 := fun x y H Q => rNe x y H Q ∨ rNeD K x y H Q
theorem op_eqU {X : Cx} (hu : X.A.units + 64 < cLine) : OpR X (compareOp .Eq) (rEqU X.K) := op_eq.or (op_eqD hu)
theorem op_neU {X : Cx} (hu : X.A.units + 64 < cLine) : OpR X (compareOp .NotEq) (rNeU X.K) := op_ne.or (op_neD hu)
def rLtU : R2 := fun x y H Q => rI0 (fun i j => .bl (decide (i < j))) x y H Q ∨ (∃ i j, x = V.str i ∧ y = V.str j ∧ Q (V.bl (decide (i.cps.toList < j.cps.toList))) H)
theorem op_ltU {X : Cx} : OpR X (compareOp .Lt) rLtU := op_lt.or op_lt_str
def rLeU : R2 := fun x y H Q => rI0 (fun i j => .bl (decide (i ≤ j))) x y H Q ∨ (∃ i j, x = V.str i ∧ y = V.str j ∧ Q (V.bl (!decide (j.cps.toList < i.cps.toList))) H)
theorem op_leU {X : Cx} : OpR X (compareOp .LtE) rLeU := op_le.or op_le_str
def rMulU : R2 := fun x y H Q => rI CMul (fun i j => .int (i * j)) x y H Q ∨ rRep x y H Q
theorem op_mulU {X : Cx} : OpR X (binaryOp .Mult) rMulU := op_mul.or op_rep
def rSlU (K : PySem.W.Frag) : V → Option Int → Option Int → Hp → VK → Prop := fun x lo hi H Q => rSlS x lo hi H Q ∨ (fun x lo hi H Q => rSlL K x lo hi H Q ∨ rSlT K x lo hi H Q) x lo hi H Q
theorem sl_U {X : Cx} : SlR X (rSlU X.K) := sl_str.or (sl_list.or sl_tup)
def rInU (K : PySem.W.Frag) : R2 := fun x y H Q => (∃ (c : Nat) (z : Str), x = V.str ⟨#[c]⟩ ∧ y = V.str z ∧ Q (V.bl (decide (c ∈ z.cps.toList))) H) ∨ (fun x y H Q => rIn K false x y H Q ∨ (∃ i j, x = V.str i ∧ y = V.str j ∧ Q (V.bl (!(Builtin.Str.occurrences j i 0 j.length 1).isEmpty)) H)) x y H Q
theorem op_inU {X : Cx} : OpR X (compareOp .In) (rInU X.K) := op_in_sign.or (op_in_seq.or op_in_str)
def rNotInU (K : PySem.W.Frag) : R2 := fun x y H Q => (∃ (c : Nat) (z : Str), x = V.str ⟨#[c]⟩ ∧ y = V.str z ∧ Q (V.bl (!decide (c ∈ z.cps.toList))) H) ∨ (fun x y H Q => rIn K true x y H Q ∨ (∃ i j, x = V.str i ∧ y = V.str j ∧ Q (V.bl (!(!(Builtin.Str.occurrences j i 0 j.length 1).isEmpty))) H)) x y H Q
theorem op_notInU {X : Cx} : OpR X (compareOp .NotIn) (rNotInU X.K) := op_notIn_sign.or (op_notIn_seq.or op_notin_str)
theorem pip_or {X : Cx} {op : Operator} {t t' : TIp} (h : PIp X op t) (h' : PIp X op t') : PIp X op (fun x y H Q => t x y H Q ∨ t' x y H Q) := by
  intro pins s σ H x y v u Q I r1 r2 q
  rcases q with q | q
  · exact h pins s σ H x y v u Q I r1 r2 q
  · exact h' pins s σ H x y v u Q I r1 r2 q
def ipAddU : TIp := fun x y H Q => ipI (fun i j => i + j) x y H Q ∨ (∃ i j, x = V.str i ∧ y = V.str j ∧ i.length + j.length ≤ sizeLine ∧ Q (V.str (i ++ j)) H)
theorem ip_addU {X : Cx} : PIp X .Add ipAddU := pip_or ip_add (fun pins s σ H x y v u Q I r1 r2 h => iop_add_str pins s σ H x y v u Q I r1 r2 h)

/-! ### the same with the written part under its name (within a comprehension) -/
section
variable {X : Cx} {K : PySem.W.Frag}
theorem op_addK (h : X.K = K) : OpR X (binaryOp .Add) (rAddU K) := h ▸ op_addU
theorem op_eqK (h : X.K = K) (hu : X.A.units + 64 < cLine) : OpR X (compareOp .Eq) (rEqU K) := h ▸ op_eqU hu
theorem op_neK (h : X.K = K) (hu : X.A.units + 64 < cLine) : OpR X (compareOp .NotEq) (rNeU K) := h ▸ op_neU hu
theorem sl_K (h : X.K = K) : SlR X (rSlU K) := h ▸ sl_U
theorem op_inK (h : X.K = K) : OpR X (compareOp .In) (rInU K) := h ▸ op_inU
theorem op_notInK (h : X.K = K) : OpR X (compareOp .NotIn) (rNotInU K) := h ▸ op_notInU
theorem ix_K (h : X.K = K) : IxR X (rIx K) := h ▸ ix_seq
theorem call_lenK (h : X.K = K) : CallR X (.builtin "len") (fun xs H Q => ∃ x n, xs = [x] ∧ LenV K x H n ∧ Q (.int (n : Nat)) H) := h ▸ call_len
theorem cr_sumK (h : X.K = K) (hc : X.calm = true) : CallR X (.builtin "sum") (rSum K) := h ▸ cr_sum hc
theorem call_isiK (h : X.K = K) : CallR X (.builtin "isinstance") (rIsi K) := h ▸ call_isi
theorem mt_joinK (h : X.K = K) : MtR X "str.join" (fun x xs H Q => ∃ a p, ∃ ys : List Str, x = .str a ∧ xs = [.ref p] ∧ (SqL K H p (ys.map V.str) ∨ SqT K H p (ys.map V.str)) ∧ (ys.map (·.length)).sum + ys.length * a.length ≤ 16777216 ∧ Q (.str (Txt.join a ys)) H) := h ▸ mt_join
theorem call_tupK (h : X.K = K) : CallR X (.type "tuple") (fun xs H Q => ∃ p ys, xs = [.ref p] ∧ ((SqL K H p ys ∧ ∀ l, H l = none → Q (.ref l) (upd H l (.tup ys))) ∨ (SqT K H p ys ∧ Q (.ref p) H))) := h ▸ call_tuple_of
theorem call_lstK (h : X.K = K) : CallR X (.type "list") (fun xs H Q => ∃ p ys, xs = [.ref p] ∧ (SqL K H p ys ∨ SqT K H p ys) ∧ ∀ l, H l = none → Q (.ref l) (upd H l (.lst ys))) := h ▸ call_list_of
theorem pi_listK {tg e : Expr} {te : TE} (h : X.K = K) (H : PI X tg e (iList X.K te)) : PI X tg e (iList K te) := h ▸ H
theorem pi_tupK {tg e : Expr} {te : TE} (h : X.K = K) (H : PI X tg e (iTup X.K te)) : PI X tg e (iTup K te) := h ▸ H
theorem pi_zipK {tg e : Expr} {ta : TA} (h : X.K = K) (H : PI X tg e (iZip X.K ta)) : PI X tg e (iZip K ta) := h ▸ H
theorem pi_enumK {tg e : Expr} {ta : TA} (h : X.K = K) (H : PI X tg e (iEnum X.K ta)) : PI X tg e (iEnum K ta) := h ▸ H
theorem pi_revK {tg e : Expr} {ta : TA} (h : X.K = K) (H : PI X tg e (iRev X.K ta)) : PI X tg e (iRev K ta) := h ▸ H
theorem pg_tupK {e : Expr} {t : TGs} {n : Nat} (h : X.K = K) (H : PG X e (gTup X.K n t)) : PG X e (gTup K n t) := h ▸ H
theorem pe_bmK {T : String} {e : Expr} {to : TE} {t : TA} {r : V → List V → Hp → VK → Prop} (h : X.K = K) (H : PE X e (tBM X.K T r to t)) : PE X e (tBM K T r to t) := h ▸ H
theorem pe_bm0K {T : String} {e : Expr} {to : TE} {r : V → List V → Hp → VK → Prop} (h : X.K = K) (H : PE X e (tBM0 X.K T r to)) : PE X e (tBM0 K T r to) := h ▸ H
end
section
variable {K : Kx} {ρ : List Sl} {o : Ob} {R : RD} {N B C : RE} {te ta tb tc : TE} {tt : TT} {i : Nat} {T : TA}
theorem xr_addI {m n : Int} (r : R (.d (.int (m + n))) ρ o) : XR K (rAddU K) (.d (.int m)) (.d (.int n)) ρ o R := xr_or1 (xr_i0 (g := fun i j => i + j) r)
theorem xr_addS {m n : Str} (c : m.length + n.length ≤ sizeLine) (r : R (.d (.str (m ++ n))) ρ o) : XR K (rAddU K) (.d (.str m)) (.d (.str n)) ρ o R := xr_or2 (xr_or1 (xr_catS c r))
theorem xr_addL {a b : DV} {m n : List PyData} (ha : IsL ρ a m) (hb : IsL ρ b n) (c : m.length + n.length ≤ sizeLine) (r : R (.new (.lst (m ++ n))) ρ o) : XR K (rAddU K) a b ρ o R := xr_or2 (xr_or2 (xr_or1 (xr_catL ha hb c r)))
theorem xr_sub {m n : Int} (r : R (.d (.int (m - n))) ρ o) : XR K (rI0 fun i j => .int (i - j)) (.d (.int m)) (.d (.int n)) ρ o R := xr_i0 (g := fun i j => i - j) r
theorem xr_mulI {m n : Int} (c : CMul m n) (r : R (.d (.int (m * n))) ρ o) : XR K rMulU (.d (.int m)) (.d (.int n)) ρ o R := xr_or1 (xr_iC (g := fun i j => i * j) c r)
theorem xr_fdiv {m n : Int} (c : CDivN m n) (r : R (.d (.int (m.fdiv n))) ρ o) : XR K (rI CDivN fun i j => .int (i.fdiv j)) (.d (.int m)) (.d (.int n)) ρ o R := xr_iC (g := fun i j => i.fdiv j) c r
theorem xr_fmod {m n : Int} (c : n ≠ 0) (r : R (.d (.int (m.fmod n))) ρ o) : XR K (rI (fun _ j => j ≠ 0) fun i j => .int (i.fmod j)) (.d (.int m)) (.d (.int n)) ρ o R := xr_iC (g := fun i j => i.fmod j) (C := fun _ j => j ≠ 0) c r
theorem xr_ltI {m n : Int} (r : R (.d (.bool (decide (m < n)))) ρ o) : XR K rLtU (.d (.int m)) (.d (.int n)) ρ o R := xr_or1 (xr_b0 (g := fun i j => decide (i < j)) r)
theorem xr_leI {m n : Int} (r : R (.d (.bool (decide (m ≤ n)))) ρ o) : XR K rLeU (.d (.int m)) (.d (.int n)) ρ o R := xr_or1 (xr_b0 (g := fun i j => decide (i ≤ j)) r)
theorem xr_gtI {m n : Int} (r : R (.d (.bool (decide (n < m)))) ρ o) : XR K (rI0 fun i j => .bl (decide (j < i))) (.d (.int m)) (.d (.int n)) ρ o R := xr_b0 (g := fun i j => decide (j < i)) r
theorem xr_geI {m n : Int} (r : R (.d (.bool (decide (n ≤ m)))) ρ o) : XR K (rI0 fun i j => .bl (decide (j ≤ i))) (.d (.int m)) (.d (.int n)) ρ o R := xr_b0 (g := fun i j => decide (j ≤ i)) r
theorem xr_leS {m n : Str} (r : R (.d (.bool (!decide (n.cps.toList < m.cps.toList)))) ρ o) : XR K rLeU (.d (.str m)) (.d (.str n)) ρ o R := xr_or2 fun G σ H x y e h1 h2 Q q =>
  ⟨m, n, vok_str h1, vok_str h2, xq_now q e r (.bl _)⟩
theorem scal_int {m n : Int} : scal (.int m) (.int n) = true := rfl
theorem scal_str {m n : Str} : scal (.str m) (.str n) = true := rfl
theorem xr_eqI {m n : Int} (r : R (.d (.bool (decide (m = n)))) ρ o) : XR K (rEqU K) (.d (.int m)) (.d (.int n)) ρ o R := xr_or1 fun G σ H x y e h1 h2 Q q => by
  cases vok_int h1
  cases vok_int h2
  refine ⟨rfl, ?_⟩
  rw [show decide ((V.int m) = V.int n) = decide (m = n) by
    by_cases h : m = n
    · subst h; simp
    · simp [h]]
  exact xq_now q e r (.bl _)
theorem xr_eqS {m n : Str} (r : R (.d (.bool (decide (m = n)))) ρ o) : XR K (rEqU K) (.d (.str m)) (.d (.str n)) ρ o R := xr_or1 fun G σ H x y e h1 h2 Q q => by
  cases vok_str h1
  cases vok_str h2
  refine ⟨rfl, ?_⟩
  rw [show decide ((V.str m) = V.str n) = decide (m = n) by
    by_cases h : m = n
    · subst h; simp
    · simp [h]]
  exact xq_now q e r (.bl _)
theorem xr_eqB {m n : Bool} (r : R (.d (.bool (decide (m = n)))) ρ o) : XR K (rEqU K) (.d (.bool m)) (.d (.bool n)) ρ o R := xr_or1 fun G σ H x y e h1 h2 Q q => by
  cases vok_bl h1
  cases vok_bl h2
  refine ⟨rfl, ?_⟩
  rw [show decide ((V.bl m) = V.bl n) = decide (m = n) by cases m <;> cases n <;> rfl]
  exact xq_now q e r (.bl _)
theorem xr_neI {m n : Int} (r : R (.d (.bool (!decide (m = n)))) ρ o) : XR K (rNeU K) (.d (.int m)) (.d (.int n)) ρ o R := xr_or1 fun G σ H x y e h1 h2 Q q => by
  cases vok_int h1
  cases vok_int h2
  refine ⟨rfl, ?_⟩
  rw [show decide ((V.int m) = V.int n) = decide (m = n) by
    by_cases h : m = n
    · subst h; simp
    · simp [h]]
  exact xq_now q e r (.bl _)
theorem xr_neS {m n : Str} (r : R (.d (.bool (!decide (m = n)))) ρ o) : XR K (rNeU K) (.d (.str m)) (.d (.str n)) ρ o R := xr_or1 fun G σ H x y e h1 h2 Q q => by
  cases vok_str h1
  cases vok_str h2
  refine ⟨rfl, ?_⟩
  rw [show decide ((V.str m) = V.str n) = decide (m = n) by
    by_cases h : m = n
    · subst h; simp
    · simp [h]]
  exact xq_now q e r (.bl _)
theorem VOk.dp {G : Hp} {σ : L2.St} {H : Hp} {x : V} {d : PyData} (e : En K o ρ G σ H) (h : VOk K o ρ G σ H x (.d d)) : Dp K H x d := Rp.dp (Rp.sub e.wd.sub h)
theorem xr_eqD {d e : PyData} (h1 : SeqAt.shaped d = true) (h2 : SeqAt.shaped e = true) (r : R (.d (.bool (PyData.eqv d e))) ρ o) : XR K (rEqU K) (.d d) (.d e) ρ o R := xr_or2 fun G σ H x y en k1 k2 Q q =>
  ⟨d, e, k1.dp en, k2.dp en, h1, h2, xq_now q en r (.bl _)⟩
/-- a list, read where it stands, as data -/
theorem IsL.dp {G : Hp} {σ : L2.St} {H : Hp} {x : V} {dv : DV} {ds : List PyData} (l : IsL ρ dv ds) (e : En K o ρ G σ H) (h : VOk K o ρ G σ H x dv) : Dp K H x (.list ds) := by
  obtain ⟨p, xs, rfl, hp, ok⟩ := l.at e h
  exact .lst (.inl (.inl hp)) (RpAll.dp (RpAll.sub e.wd.sub ok))
theorem xr_eqL {a b : DV} {d e : List PyData} (la : IsL ρ a d) (lb : IsL ρ b e) (h1 : SeqAt.shaped (.list d) = true) (h2 : SeqAt.shaped (.list e) = true) (r : R (.d (.bool (PyData.eqv (.list d) (.list e)))) ρ o) : XR K (rEqU K) a b ρ o R := xr_or2 fun G σ H x y en k1 k2 Q q =>
  ⟨_, _, la.dp en k1, lb.dp en k2, h1, h2, xq_now q en r (.bl _)⟩
theorem xr_neL {a b : DV} {d e : List PyData} (la : IsL ρ a d) (lb : IsL ρ b e) (h1 : SeqAt.shaped (.list d) = true) (h2 : SeqAt.shaped (.list e) = true) (r : R (.d (.bool (!PyData.eqv (.list d) (.list e)))) ρ o) : XR K (rNeU K) a b ρ o R := xr_or2 fun G σ H x y en k1 k2 Q q =>
  ⟨_, _, la.dp en k1, lb.dp en k2, h1, h2, xq_now q en r (.bl _)⟩
theorem xr_inC {c : Nat} {z : Str} (r : R (.d (.bool (decide (c ∈ z.cps.toList)))) ρ o) : XR K (rInU K) (.d (.str ⟨#[c]⟩)) (.d (.str z)) ρ o R := xr_or1 fun G σ H x y en k1 k2 Q q =>
  ⟨c, z, vok_str k1, vok_str k2, xq_now q en r (.bl _)⟩
theorem xr_notInC {c : Nat} {z : Str} (r : R (.d (.bool (!decide (c ∈ z.cps.toList)))) ρ o) : XR K (rNotInU K) (.d (.str ⟨#[c]⟩)) (.d (.str z)) ρ o R := xr_or1 fun G σ H x y en k1 k2 Q q =>
  ⟨c, z, vok_str k1, vok_str k2, xq_now q en r (.bl _)⟩
def isNoneD : PyData → Bool
  | .none => true
  | _ => false
theorem xr_isN {d : PyData} (r : R (.d (.bool (isNoneD d))) ρ o) : XR K (fun x y H Q => y = .non ∧ Q (.bl (decide (x = .non))) H) (.d d) (.d .none) ρ o R := fun G σ H x y en k1 k2 Q q => by
  cases vok_non k2
  refine ⟨rfl, ?_⟩
  have : decide (x = .non) = (isNoneD d) := by cases k1 <;> rfl
  rw [this]
  exact xq_now q en r (.bl _)
theorem xr_notN {d : PyData} (r : R (.d (.bool (!isNoneD d))) ρ o) : XR K (fun x y H Q => y = .non ∧ Q (.bl (!decide (x = .non))) H) (.d d) (.d .none) ρ o R := fun G σ H x y en k1 k2 Q q => by
  cases vok_non k2
  refine ⟨rfl, ?_⟩
  have : (!decide (x = .non)) = (!isNoneD d) := by cases k1 <;> rfl
  rw [this]
  exact xq_now q en r (.bl _)
theorem xsl_S {z : Str} {l u : Option Int} (hl : z.length ≤ sizeLine) (r : R (.d (.str (cutS z l u))) ρ o) : XSl K (rSlU K) (.d (.str z)) l u ρ o R := xsl_or1 (xsl_str hl r)
theorem xsl_L {a : DV} {ds : List PyData} {l u : Option Int} (hl : IsL ρ a ds) (r : R (.new (.lst (cutD ds l u))) ρ o) : XSl K (rSlU K) a l u ρ o R := xsl_or2 (xsl_or1 (xsl_list hl r))
theorem xe_neg (h : XE K te ρ o fun dv ρ1 o1 => ∃ n, dv = .d (.int n) ∧ R (.d (.int (-n))) ρ1 o1) : XE K (tUn (rU fun i => .int (-i)) te) ρ o R := fun G σ H e Q q =>
  h.seq e fun v dv ρ1 o1 G1 H1 ⟨n, hd, r⟩ s1 e1 ok fr => by subst hd; exact ⟨n, vok_int ok, q _ _ _ _ _ _ r s1 e1 (.int _) trivial⟩
theorem xs_augA {a : Int} (hi : ρ[i]? = some (.val (.int a))) (h : XE K te ρ o fun dv ρ' o' => ∃ b, dv = .d (.int b) ∧ Nat.blt i ρ'.length = true ∧ N (ρ'.set i (.val (.int (a + b)))) o') :
    XS K (tAug i te ipAddU) ρ o N R B C := fun G σ H e D qn qr qb qc => by
  obtain ⟨ov, h1, v, rfl, hv⟩ := e.sl i _ hi
  cases hv
  refine ⟨_, h1, h.seq e fun v dv ρ' o' G' H' ⟨b, hd, hl, n⟩ s e' ok fr => ?_⟩
  subst hd
  exact .inl ⟨a, b, rfl, vok_int ok, qn _ _ _ _ _ n (s.trans (e'.store (lt_of_blt hl) (s := .val (.int (a + b))) ⟨_, rfl, .int _⟩ (fun c z => nomatch z)).2) (e'.store (lt_of_blt hl) (s := .val (.int (a + b))) ⟨_, rfl, .int _⟩ (fun c z => nomatch z)).1⟩
theorem xe_chain {r r' : R2} (h : XE K ta ρ o fun a ρ1 o1 => XE K tb ρ1 o1 fun b ρ2 o2 => Kept ρ2 a ∧ XR K r a b ρ2 o2 fun c ρ3 o3 => ∃ k, c = .d (.bool k) ∧ (k = true → XE K tc ρ3 o3 fun d ρ4 o4 => Kept ρ4 b ∧ XR K r' b d ρ4 o4 R) ∧ (k = false → R (.d (.bool false)) ρ3 o3) ∧ Kept ρ3 b) :
    XE K (tChain r r' ta tb tc) ρ o R := fun G σ H e Q q =>
  h.seq e fun x a ρ1 o1 G1 H1 r1 s1 e1 ok1 fr1 => XE.seq r1 e1 fun y b ρ2 o2 G2 H2 ⟨kp, r2⟩ s2 e2 ok2 fr2 =>
    r2 G2 σ H2 x y e2 (ok1.step s2 kp) ok2 _ fun z c ρ3 o3 G3 H3 ⟨k, hc, rt, rf, kb⟩ s3 e3 ok3 fr3 => by
      subst hc
      have s13 := (s1.trans s2).trans s3
      refine ⟨k, vok_bl ok3, ?_⟩
      cases k with
      | true => exact iteT (XE.seq (rt rfl) e3 fun w d ρ4 o4 G4 H4 ⟨kp4, r4⟩ s4 e4 ok4 fr4 => r4 G4 σ H4 y w e4 ((ok2.step s3 kb).step s4 kp4) ok4 Q fun v dv ρ' o' G' H' r s e' ok fr => q v dv ρ' o' G' H' r ((s13.trans s4).trans s) e' ok (fr.back (s13.trans s4)))
      | false => exact iteF (q _ _ _ _ _ _ (rf rfl) s13 e3 (.bl false) trivial)

/-! ### more built-ins -/
theorem xc_int1 {n : Int} (r : R (.d (.int n)) ρ o) : XC K (fun xs H Q => (∃ i, xs = [.int i] ∧ Q (.int i) H) ∨ ∃ k, xs = [.bl k] ∧ Q (.int (if k then 1 else 0)) H) [.d (.int n)] ρ o R := fun G σ H vs e h0 Q q => by
  obtain ⟨v, rfl, h⟩ := va1 h0
  cases vok_int h
  exact .inl ⟨n, rfl, xq_now q e r (.int _)⟩
/-- the class of a datum -/
def tyN : PyData → String
  | .none => "NoneType"
  | .bool _ => "bool"
  | .int _ => "int"
  | .str _ => "str"
  | .list _ => "list"
  | .tuple _ => "tuple"
  | .dict _ => "dict"
theorem TyX.of {G : Hp} {x : V} {d : PyData} (h : Rp K G x d) {H : Hp} (s : Sub G H) : TyX K H x (.type (tyN d)) := by
  cases h with
  | non => exact .base .non
  | bl b => exact .base (.bl b)
  | int b => exact .base (.int b)
  | str b => exact .base (.str b)
  | lst h _ => exact .base (.lst (s _ _ h))
  | tup h _ =>
    rcases h with (h | ⟨ob, h⟩) | ⟨ob, its, n, h1, h2, _⟩
    · exact .base (.tup (s _ _ h))
    · exact .fTuple (s _ _ h)
    · exact .kTuple h1 h2
theorem xc_isi {d : PyData} {n : String} {b : Bool} (hb : kitB (tyN d) n = some b) (r : R (.d (.bool b)) ρ o) : XC K (rIsi K) [.d d, .raw (.ty n)] ρ o R := fun G σ H vs e h Q q => by
  obtain ⟨v, u, rfl, h1, h2⟩ := va2 h
  have h2 : u = .ty n := h2
  subst h2
  exact ⟨v, .ty n, _, _, b, rfl, .ty n, TyX.of h1 e.wd.sub, kit_ty hb, xq_now q e r (.bl _)⟩
theorem xm_join {a : Str} {dv : DV} {ys : List Str} (l : IsL ρ dv (ys.map .str)) (hl : (ys.map (·.length)).sum + ys.length * a.length ≤ 16777216) (r : R (.d (.str (Txt.join a ys))) ρ o) :
    XM K (fun x xs H Q => ∃ a p, ∃ ys : List Str, x = .str a ∧ xs = [.ref p] ∧ (SqL K H p (ys.map V.str) ∨ SqT K H p (ys.map V.str)) ∧ (ys.map (·.length)).sum + ys.length * a.length ≤ 16777216 ∧ Q (.str (Txt.join a ys)) H) (.d (.str a)) [dv] ρ o R := fun G σ H x vs e hx hv0 Q q => by
  obtain ⟨v, rfl, hv⟩ := va1 hv0
  cases vok_str hx
  obtain ⟨p, xs, rfl, hp, ok⟩ := l.at e hv
  refine ⟨a, p, ys, rfl, rfl, .inl ?_, hl, xq_now q e r (.str _)⟩
  rw [← ok.of_strs]
  exact .inl (.inl hp)
end
end DL

set_option Elab.async false
set_option linter.all false
set_option maxRecDepth 100000
namespace DL
open PySem PySem.Spec PyProof.Rows L2

/-! ### comprehensions -/
def setAll {α : Type} (l : List α) : List Nat → List α → List α
  | [], _ => l
  | _ :: _, [] => l
  | i :: is, x :: xs => setAll (l.set i x) is xs
theorem setAll_len {α : Type} : ∀ (is : List Nat) (xs : List α) (l : List α), (setAll l is xs).length = l.length
  | [], _, _ => by simp only [setAll]
  | _ :: _, [], _ => by simp only [setAll]
  | i :: is, x :: xs, l => by unfold setAll; rw [setAll_len is xs, List.length_set]
theorem setAll_out {α : Type} : ∀ (is : List Nat) (xs : List α) (l : List α) (j : Nat), j ∉ is → (setAll l is xs)[j]? = l[j]?
  | [], _, _, _, _ => by simp only [setAll]
  | _ :: _, [], _, _, _ => by simp only [setAll]
  | i :: is, x :: xs, l, j, h => by
    unfold setAll
    rw [setAll_out is xs _ j (fun z => h (List.mem_cons_of_mem _ z)), List.getElem?_set_ne (fun z => h (by rw [z]; exact List.mem_cons_self))]
theorem setAll_in {α β : Type} (P : α → β → Prop) : ∀ (is : List Nat) (xs : List α) (ys : List β) (l : List α) (m : List β) (j : Nat), j ∈ is → is.length = xs.length → is.length = ys.length → l.length = m.length → (∀ i ∈ is, i < l.length) → (∀ (k : Nat) x y, xs[k]? = some x → ys[k]? = some y → P x y) →
    ∃ x y, (setAll l is xs)[j]? = some x ∧ (setAll m is ys)[j]? = some y ∧ P x y
  | i :: is, x :: xs, y :: ys, l, m, j, hj, h1, h2, h3, h4, hp => by
    unfold setAll
    by_cases hm : j ∈ is
    · exact setAll_in P is xs ys _ _ j hm (by simpa using h1) (by simpa using h2) (by rw [List.length_set, List.length_set]; exact h3) (fun i hi => by rw [List.length_set]; exact h4 i (List.mem_cons_of_mem _ hi)) fun k a b ha hb => hp (k + 1) a b (by simpa using ha) (by simpa using hb)
    · rcases List.mem_cons.mp hj with rfl | h
      · have hl := h4 j List.mem_cons_self
        rw [setAll_out is xs _ j hm, setAll_out is ys _ j hm, List.getElem?_set_self hl, List.getElem?_set_self (by rw [← h3]; exact hl)]
        exact ⟨x, y, rfl, rfl, hp 0 x y rfl rfl⟩
      · exact absurd h hm
theorem wipe_in {σ : L2.St} : ∀ {vs : List Nat} {j : Nat}, j ∉ vs → (wipe σ vs)[j]? = σ[j]?
  | [], _, _ => rfl
  | v :: vs, j, h => by
    unfold wipe
    rw [List.getElem?_set_ne (fun z => h (by rw [z]; exact List.mem_cons_self)), wipe_in fun z => h (List.mem_cons_of_mem _ z)]
theorem wipe_none {σ : L2.St} : ∀ {vs : List Nat} {j : Nat}, j ∈ vs → j < σ.length → (wipe σ vs)[j]? = some none
  | v :: vs, j, h, hl => by
    unfold wipe
    by_cases e : v = j
    · subst e; rw [List.getElem?_set_self (by rw [wipe_length]; exact hl)]
    · rw [List.getElem?_set_ne e]
      rcases List.mem_cons.mp h with z | z
      · exact absurd z.symm e
      · exact wipe_none z hl
theorem wipe_eq {σ τ : L2.St} {vs : List Nat} (hl : σ.length = τ.length) (h : ∀ j, j ∉ vs → σ[j]? = τ[j]?) : wipe σ vs = wipe τ vs := by
  apply List.ext_getElem?
  intro j
  by_cases hj : j ∈ vs
  · by_cases hlt : j < σ.length
    · rw [wipe_none hj hlt, wipe_none hj (by rw [← hl]; exact hlt)]
    · rw [List.getElem?_eq_none (by rw [wipe_length]; omega), List.getElem?_eq_none (by rw [wipe_length]; omega)]
  · rw [wipe_in hj, wipe_in hj, h j hj]
def gNames : List Nat → TGs
  | [] => gNil
  | i :: is => gCons (gName i) (gNames is)
/-- a block's target: its names get the parts of what is walked -/
def BT (K : PySem.W.Frag) (g : TG) (is : List Nat) (d : PyData) (ds : List PyData) : Prop :=
  is.length = ds.length ∧ ∀ (G : Hp) (v : V), Rp K G v d → ∃ vs, RpAll K G vs ds ∧ ∀ (H : Hp), Sub G H → ∀ (σ : L2.St) (Q : L2.St → Hp → Prop), Q (setAll σ is (vs.map some)) H → g v σ H Q
theorem bt_name {K : PySem.W.Frag} {i : Nat} {d : PyData} : BT K (gName i) [i] d [d] := ⟨rfl, fun G v r => ⟨[v], .cons r .nil, fun H _ σ Q q => q⟩⟩
theorem gnames_run : ∀ (is : List Nat) (vs : List V) (σ : L2.St) (H : Hp) (Q : L2.St → Hp → Prop), is.length = vs.length → Q (setAll σ is (vs.map some)) H → gNames is vs σ H Q
  | [], [], _, _, _, _, q => ⟨rfl, q⟩
  | i :: is, v :: vs, σ, H, Q, h, q => ⟨v, vs, rfl, gnames_run is vs _ H Q (by simpa using h) q⟩
theorem bt_tup {K : PySem.W.Frag} {is : List Nat} {n : Nat} {ds : List PyData} (h : is.length = ds.length) (hn : ds.length = n := by rfl) : BT K (gTup K n (gNames is)) is (.tuple ds) ds := ⟨h, fun G v r => by
  cases r with
  | @tup a xs _ hs ok =>
  exact ⟨xs, ok, fun H s σ Q q => ⟨a, xs, rfl, SqT.sub s hs, by rw [ok.len]; exact hn, gnames_run is xs σ H Q (by rw [ok.len]; exact h) q⟩⟩⟩

section
variable {K : Kx} {ρ ρ1 : List Sl} {o o' : Ob} {R : RD} {te : TE} {tt : TT} {g : TG} {is : List Nat} {T : TA}
/-- the block's names in the environment -/
def blkE (ρ : List Sl) (is : List Nat) (ds : List PyData) : List Sl := setAll ρ is (ds.map .val)
/-- no name of the block is owned around it -/
def NoOw (ρ : List Sl) (is : List Nat) : Prop := ∀ j ∈ is, j < ρ.length ∧ ∀ c, ρ[j]? ≠ some (.own c)
theorem blk_own {ds : List PyData} {σ : L2.St} {vs : List V} {G : Hp} (no : NoOw ρ is) (h1 : is.length = ds.length) (ok : RpAll K G vs ds) (hl : σ.length = ρ.length) {j : Nat} {p : Addr} :
    OwnAt (blkE ρ is ds) (setAll (wipe σ is) is (vs.map some)) j p ↔ OwnAt ρ σ j p := by
  by_cases hj : j ∈ is
  · obtain ⟨x, y, e1, e2, d, rfl⟩ := setAll_in (fun (x : Sl) (y : Option V) => ∃ d, x = .val d) is (ds.map .val) (vs.map some) ρ (wipe σ is) j hj (by simpa using h1) (by rw [List.length_map, ok.len]; exact h1) (by rw [wipe_length, hl]) (fun i hi => (no i hi).1) (fun k x y hx _ => by
      rw [List.getElem?_map] at hx
      cases q : ds[k]? with
      | none => rw [q] at hx; cases hx
      | some d => rw [q] at hx; exact ⟨d, (Option.some.inj hx).symm⟩)
    constructor
    · rintro ⟨⟨c, hc⟩, _⟩
      rw [show blkE ρ is ds = setAll ρ is (ds.map .val) from rfl, e1] at hc
      cases hc
    · rintro ⟨⟨c, hc⟩, _⟩
      exact absurd hc ((no j hj).2 c)
  · unfold OwnAt blkE
    rw [setAll_out _ _ _ _ hj, setAll_out _ _ _ _ hj, wipe_in hj]
/-- into the block -/
theorem En.blk {ds : List PyData} {σ : L2.St} {vs : List V} {G H : Hp} (e : En K o ρ G σ H) (no : NoOw ρ is) (h1 : is.length = ds.length) (ok : RpAll K G vs ds) :
    En K o (blkE ρ is ds) G (setAll (wipe σ is) is (vs.map some)) H ∧ Stp ρ σ o G H (blkE ρ is ds) (setAll (wipe σ is) is (vs.map some)) o G H ∧ Stp (blkE ρ is ds) (setAll (wipe σ is) is (vs.map some)) o G H ρ σ o G H := by
  have ow : ∀ {j p}, OwnAt (blkE ρ is ds) (setAll (wipe σ is) is (vs.map some)) j p ↔ OwnAt ρ σ j p := fun {j p} => blk_own no h1 ok e.len
  have stp : Stp ρ σ o G H (blkE ρ is ds) (setAll (wipe σ is) is (vs.map some)) o G H := ⟨Sub.refl, fun _ _ h _ _ => h, fun _ h _ _ _ => h, fun _ h => .inl h, fun a ⟨j, h⟩ => .inl ⟨j, ow.mp h⟩⟩
  refine ⟨⟨⟨e.wd, by unfold blkE; rw [setAll_len, setAll_len, wipe_length]; exact e.len, fun j s h => ?_, fun j k p a b => e.dis j k p (ow.mp a) (ow.mp b), fun p ⟨j, h⟩ => e.onf p ⟨j, ow.mp h⟩⟩, e.wo.step stp⟩,
    stp, ⟨Sub.refl, fun _ _ h _ _ => h, fun _ h _ _ _ => h, fun _ h => .inl h, fun a ⟨j, h⟩ => .inl ⟨j, ow.mpr h⟩⟩⟩
  by_cases hj : j ∈ is
  · obtain ⟨x, y, e1, e2, d, v, rfl, rfl, r⟩ := setAll_in (fun (x : Sl) (y : Option V) => ∃ d v, x = .val d ∧ y = some v ∧ Rp K G v d) is (ds.map .val) (vs.map some) ρ (wipe σ is) j hj (by simpa using h1) (by rw [List.length_map, ok.len]; exact h1) (by rw [wipe_length, e.len]) (fun i hi => (no i hi).1) (fun k x y hx hy => by
      rw [List.getElem?_map] at hx hy
      cases q : ds[k]? with
      | none => rw [q] at hx; cases hx
      | some d =>
        rw [q] at hx
        obtain ⟨v, hv, rv⟩ := ok.get' q
        rw [hv] at hy
        exact ⟨d, v, (Option.some.inj hx).symm, (Option.some.inj hy).symm, rv⟩)
    rw [show blkE ρ is ds = setAll ρ is (ds.map .val) from rfl, e1] at h
    cases h
    exact ⟨_, e2, v, rfl, r⟩
  · unfold blkE at h
    rw [setAll_out _ _ _ _ hj] at h
    obtain ⟨ov, k1, k2⟩ := e.sl j s h
    exact ⟨ov, by rw [setAll_out _ _ _ _ hj, wipe_in hj]; exact k1, k2⟩
/-- out of the block -/
theorem En.unblk {ds : List PyData} {σ : L2.St} {vs : List V} {G H G' H' : Hp} (e : En K o ρ G σ H) (no : NoOw ρ is) (h1 : is.length = ds.length) (ok : RpAll K G vs ds) (s : Sub G G') (e' : En K o' (blkE ρ is ds) G' (setAll (wipe σ is) is (vs.map some)) H') : En K o' ρ G' σ H' := by
  have stp : Stp (blkE ρ is ds) (setAll (wipe σ is) is (vs.map some)) o' G' H' ρ σ o' G' H' := ⟨Sub.refl, fun _ _ h _ _ => h, fun _ h _ _ _ => h, fun _ h => .inl h, fun a ⟨j, h⟩ => .inl ⟨j, (blk_own no h1 ok e.len).mpr h⟩⟩
  have ow : ∀ {j p}, OwnAt (blkE ρ is ds) (setAll (wipe σ is) is (vs.map some)) j p ↔ OwnAt ρ σ j p := fun {j p} => blk_own no h1 ok e.len
  refine ⟨⟨e'.wd, e.len, fun j s' h => ?_, fun j k p a b => e'.dis j k p (ow.mpr a) (ow.mpr b), fun p ⟨j, h⟩ => e'.onf p ⟨j, ow.mpr h⟩⟩, e'.wo.step stp⟩
  by_cases hj : j ∈ is
  · obtain ⟨ov, k1, k2⟩ := e.sl j s' h
    refine ⟨ov, k1, ?_⟩
    cases s' with
    | own c => exact absurd h ((no j hj).2 c)
    | no => trivial
    | raw u => exact k2
    | val d => obtain ⟨v, e1, r⟩ := k2; exact ⟨v, e1, Rp.sub s r⟩
  · have q := e'.sl j s'
    unfold blkE at q
    rw [setAll_out _ _ _ _ hj, setAll_out _ _ _ _ hj, wipe_in hj] at q
    exact q h

/-- a thing that no name and no object holds changes -/
theorem En.mutX {σ : L2.St} {G H : Hp} {D : Addr} {y : HO} (e : En K o ρ G σ H) (gD : G D = none) (nf : ¬ o.fp D) (nw : ¬ Own ρ σ D) (wo : WOk K o ρ G σ (upd H D y)) : En K o ρ G σ (upd H D y) where
  wo := wo
  wd := ⟨fun a z hz => by rw [upd_ne (show a ≠ D from fun q => by rw [q, gD] at hz; cases hz)]; exact e.wd.sub _ _ hz, e.wd.nfp, fun a ha => by rw [upd_ne (show a ≠ D from fun q => nf (by rw [← q]; exact ha))]; exact e.wd.occ a ha,
    o.st _ _ _ _ e.wd.ok Sub.refl fun a ha => upd_ne (show a ≠ D from fun q => nf (by rw [← q]; exact ha))⟩
  len := e.len
  sl := fun i s h => by
    obtain ⟨ov, h1, h2⟩ := e.sl i s h
    refine ⟨ov, h1, h2.step Sub.refl fun q c hs hv => ?_⟩
    subst hs
    have ow : Own ρ σ q := ⟨i, ⟨c, h⟩, by rw [h1, hv]⟩
    exact ⟨(e.occ_own ow).1, upd_ne (show q ≠ D from fun z => nw (by rw [← z]; exact ow))⟩
  dis := e.dis
  onf := e.onf
/-- one item of a comprehension: what it adds -/
def LcTurn (K : Kx) (tt : TT) (te : TE) (ρ1 : List Sl) (is : List Nat) (ds : List PyData) (o' : Ob) (J : Option PyData → Ob → Prop) : Prop :=
  XT K tt (blkE ρ1 is ds) o' fun b ρ2 o2 => ρ2 = blkE ρ1 is ds ∧ (b = true → XEF K te (blkE ρ1 is ds) o2 fun dv ρ3 o3 => ρ3 = blkE ρ1 is ds ∧ ∃ d, dv = .d d ∧ J (some d) o3) ∧ (b = false → J none o2)
/-- the state of a comprehension's turn -/
def LcP (K : Kx) (I : List PyData → Ob → Prop) (ρ : List Sl) (σ : L2.St) (o : Ob) (G H : Hp) (ρ1 : List Sl) (G1 : Hp) (D : Addr) (H' : Hp) : Prop :=
  ∃ acc o' G' xs, I acc o' ∧ Stp ρ σ o G H ρ1 σ o' G' H' ∧ En K o' ρ1 G' σ H' ∧ H' D = some (.lst xs) ∧ G' D = none ∧ ¬ o'.fp D ∧ ¬ Own ρ1 σ D ∧ RpAll K G' xs acc ∧ acc.length < sizeLine ∧ Sub G1 G'
theorem lc_turn {I I' : List PyData → Ob → Prop} {σ : L2.St} {G H G1 G' H' : Hp} {D : Addr} {x : V} {d : PyData} {ds : List PyData} (bt : BT K g is d ds) (no : NoOw ρ1 is) (fr : H D = none ∨ o.fp D ∨ Own ρ σ D)
    {acc : List PyData} {xs : List V} (s : Stp ρ σ o G H ρ1 σ o' G' H') (e : En K o' ρ1 G' σ H') (hD : H' D = some (.lst xs)) (gD : G' D = none) (nf : ¬ o'.fp D) (nw : ¬ Own ρ1 σ D) (ok : RpAll K G' xs acc) (sb : Sub G1 G') (rx : Rp K G' x d) (len : acc.length < sizeLine) (wo0 : WOk K o ρ G σ H)
    (turn : LcTurn K tt te ρ1 is ds o' fun y o2 => match y with | some d => (acc ++ [d]).length < sizeLine ∧ I' (acc ++ [d]) o2 | none => I' acc o2) :
    g x (wipe σ is) H' fun σ2 H2 => wipe σ2 is = wipe σ is ∧ tt σ2 H2 fun b H3 =>
      if b = true then te σ2 H3 fun y H4 => ∃ acc, H4 D = some (.lst acc) ∧ acc.length < sizeLine ∧ LcP K I' ρ σ o G H ρ1 G1 D (upd H4 D (.lst (acc ++ [y]))) else LcP K I' ρ σ o G H ρ1 G1 D H3 := by
  obtain ⟨h1, hb⟩ := bt
  obtain ⟨vs, okv, run⟩ := hb G' x rx
  refine run H' e.wd.sub (wipe σ is) _ ⟨?_, ?_⟩
  · refine wipe_eq (by rw [setAll_len, wipe_length]) fun j hj => ?_
    rw [setAll_out _ _ _ _ hj, wipe_in hj]
  · obtain ⟨eb, sin, sout⟩ := e.blk no h1 okv
    have nwb : ¬ Own (blkE ρ1 is ds) (setAll (wipe σ is) is (vs.map some)) D := fun ⟨j, z⟩ => nw ⟨j, (blk_own no h1 okv e.len).mp z⟩
    refine turn G' _ H' eb _ fun b ρ2 o2 G2 H2 ⟨hρ, rt, rf⟩ s2 e2 => ?_
    subst hρ
    have keep : ∀ {o3 G3 H3}, Stp (blkE ρ1 is ds) (setAll (wipe σ is) is (vs.map some)) o' G' H' (blkE ρ1 is ds) (setAll (wipe σ is) is (vs.map some)) o3 G3 H3 → En K o3 (blkE ρ1 is ds) G3 (setAll (wipe σ is) is (vs.map some)) H3 →
        Stp ρ σ o G H ρ1 σ o3 G3 H3 ∧ En K o3 ρ1 G3 σ H3 ∧ H3 D = some (.lst xs) ∧ G3 D = none ∧ ¬ o3.fp D ∧ RpAll K G3 xs acc ∧ Sub G1 G3 := fun {o3 G3 H3} s3 e3 => by
      have sback : Stp (blkE ρ1 is ds) (setAll (wipe σ is) is (vs.map some)) o3 G3 H3 ρ1 σ o3 G3 H3 :=
        ⟨Sub.refl, fun _ _ h _ _ => h, fun _ h _ _ _ => h, fun _ h => .inl h, fun a ⟨j, h⟩ => .inl ⟨j, (blk_own no h1 okv e.len).mpr h⟩⟩
      refine ⟨((s.trans sin).trans s3).trans sback, e.unblk no h1 okv s3.g e3, s3.h D _ hD nf nwb, s3.n D gD ⟨_, hD⟩ nf nwb, fun z => ?_, RpAll.sub s3.g ok, sb.trans s3.g⟩
      rcases s3.f D z with q | q | q
      · exact nf q
      · rw [hD] at q; cases q
      · exact nwb q
    cases b with
    | false =>
      obtain ⟨k1, k2, k3, k4, k5, k6, k7⟩ := keep s2 e2
      exact iteF ⟨acc, o2, G2, xs, rf rfl, k1, k2, k3, k4, k5, nw, k6, len, k7⟩
    | true =>
      refine iteT ?_
      refine XE.seq (rt rfl) e2 fun y dv ρ3 o3 G3 H4 ⟨hρ, d', hd, hl, hi⟩ s3 e3 ok3 fr3 => ?_
      subst hρ
      subst hd
      obtain ⟨k1, k2, k3, k4, k5, k6, k7⟩ := keep (s2.trans s3) e3
      have stp : Stp ρ σ o G H ρ1 σ o3 G3 (upd H4 D (.lst (xs ++ [y]))) := by
        refine ⟨k1.g, fun a z hz q1 q2 => ?_, k1.n, k1.f, k1.w⟩
        have hne : a ≠ D := fun q => by
          subst q
          rcases fr with q | q | q
          · rw [q] at hz; cases hz
          · exact q1 q
          · exact q2 q
        rw [upd_ne hne]
        exact k1.h a z hz q1 q2
      exact ⟨xs, k3, by rw [k6.len]; exact len, acc ++ [d'], o3, G3, xs ++ [y], hi, stp, k2.mutX k4 k5 nw (wo0.step stp), upd_same, k4, k5, nw, k6.append (.cons ok3 .nil), hl, k7⟩
theorem lc_start {I : List PyData → Ob → Prop} {σ : L2.St} {G H G1 H1 : Hp} {D : Addr} (i0 : I [] o') (s : Stp ρ σ o G H ρ1 σ o' G1 H1) (e : En K o' ρ1 G1 σ H1) (hD : H1 D = none) : LcP K I ρ σ o G H ρ1 G1 D (upd H1 D (.lst [])) :=
  ⟨[], o', G1, [], i0, s.trans (Stp.newO hD), e.newO hD, upd_same, e.wd.gnone hD, nofp e hD, noown e hD, .nil, by show 0 < sizeLine; rw [sizeLine_eq]; decide, Sub.refl⟩
theorem lc_end {I : List PyData → Ob → Prop} {σ : L2.St} {G H G1 H1 : Hp} {D : Addr} {Q : VK} (fr : H D = none ∨ o.fp D ∨ Own ρ σ D) (q : XQ K ρ o G σ H R Q) (ie : ∀ acc o', acc.length < sizeLine → I acc o' → R (.new (.lst acc)) ρ1 o') (p : LcP K I ρ σ o G H ρ1 G1 D H1) : Q (.ref D) H1 := by
  obtain ⟨acc, o', G', xs, i, s, e, hD, gD, nf, nw, ok, hl, _⟩ := p
  exact q _ _ _ _ _ _ (ie acc o' hl i) s e ⟨D, _, rfl, gD, hD, ok, nf, nw⟩ fun p hp => by cases hp; exact fr
/-- [e for .. in range(n) if t] -/
theorem xe_lcR (h : XA K T ρ o fun dvs ρ1 o1 => ∃ n : Int, dvs = [.d (.int n)] ∧ -(2 ^ 62) ≤ n ∧ n < 2 ^ 62 ∧ NoOw ρ1 is ∧ ∃ I : Nat → List PyData → Ob → Prop, I 0 [] o1 ∧
      (∀ k acc o', k < n.toNat → acc.length < sizeLine → I k acc o' → ∃ ds, BT K g is (.int (0 + (k : Nat))) ds ∧ LcTurn K tt te ρ1 is ds o' fun y o2 => match y with | some d => (acc ++ [d]).length < sizeLine ∧ I (k + 1) (acc ++ [d]) o2 | none => I (k + 1) acc o2) ∧
      ∀ acc o', acc.length < sizeLine → I n.toNat acc o' → R (.new (.lst acc)) ρ1 o') : XE K (tLc (iRng1 T) g tt te is) ρ o R := fun G σ H e0 Q q =>
  h G σ H e0 _ fun vs dvs ρ1 o1 G1 H1 ⟨n, hd, b1, b2, no, I, i0, it, ie⟩ s1 e1 ok => by
    subst hd
    obtain ⟨v, rfl, hv⟩ := va1 ok
    cases vok_int hv
    refine ⟨n, rfl, b1, b2, fun D hD => ?_⟩
    have fr := s1.old (.inl hD)
    exact lc_range (fun k H' => LcP K (I k) ρ σ o G H ρ1 G1 D H') (lc_start i0 s1 e1 hD) (fun k H' hk p => by
      obtain ⟨acc, o', G', xs, i, s, e, hD', gD, nf, nw, ok, hl, sb⟩ := p
      obtain ⟨ds, bt, turn⟩ := it k acc o' hk hl i
      exact lc_turn (I := I k) (I' := I (k + 1)) bt no fr s e hD' gD nf nw ok sb (.int _) hl e0.wo turn) fun H' p => lc_end fr q ie p
/-- [e for .. in xs if t] -/
theorem xe_lcL {tl : TE} (h : XEF K tl ρ o fun dv ρ1 o1 => ∃ es, dv = .d (.list es) ∧ NoOw ρ1 is ∧ ∃ I : Nat → List PyData → Ob → Prop, I 0 [] o1 ∧
      (∀ k d acc o', es[k]? = some d → acc.length < sizeLine → I k acc o' → ∃ ds, BT K g is d ds ∧ LcTurn K tt te ρ1 is ds o' fun y o2 => match y with | some d => (acc ++ [d]).length < sizeLine ∧ I (k + 1) (acc ++ [d]) o2 | none => I (k + 1) acc o2) ∧
      ∀ acc o', acc.length < sizeLine → I es.length acc o' → R (.new (.lst acc)) ρ1 o') : XE K (tLc (iList K tl) g tt te is) ρ o R := fun G σ H e0 Q q =>
  h G σ H e0 _ fun v dv ρ1 o1 G1 H1 ⟨es, hd, no, I, i0, it, ie⟩ s1 e1 okl _ => by
    subst hd
    cases okl with
    | @lst a ys _ hg hx =>
    refine ⟨a, rfl, ⟨ys, .inl (.inl (e1.wd.sub _ _ hg))⟩, fun D hD => ?_⟩
    have fr := s1.old (.inl hD)
    refine lc_list (xs := ys) (fun k H' => LcP K (I k) ρ σ o G H ρ1 G1 D H') (lc_start i0 s1 e1 hD) (fun k H' _ p => ?_) (fun k x H' hk p => ?_) fun H' p => ?_
    · obtain ⟨acc, o', G', xs, i, s, e, hD', gD, nf, nw, ok, hl, sb⟩ := p
      exact .inl (.inl (e.wd.sub _ _ (sb _ _ hg)))
    · obtain ⟨acc, o', G', xs, i, s, e, hD', gD, nf, nw, ok, hl, sb⟩ := p
      obtain ⟨d, hd, rx⟩ := hx.get hk
      obtain ⟨ds, bt, turn⟩ := it k d acc o' hd hl i
      exact lc_turn (I := I k) (I' := I (k + 1)) bt no fr s e hD' gD nf nw ok sb (Rp.sub sb rx) hl e0.wo turn
    · rw [hx.len] at p
      exact lc_end fr q ie p
theorem xt_yes {R' : Bool → RE} (r : R' true ρ o) : XT K tYes ρ o R' := fun G σ H e Q q => q _ _ _ _ _ r Stp.refl e
end
end DL

set_option Elab.async false
set_option linter.all false
set_option maxRecDepth 100000
namespace DL
open PySem PySem.Spec PyProof.Rows L2

/-! ### dicts -/
abbrev DKv := List (Key × PyData)
abbrev KvR (K : PySem.W.Frag) (G : Hp) (kvs : List (Key × V)) (ps : DKv) : Prop := Paired (fun (p : Key × V) (q : Key × PyData) => p.1 = q.1 ∧ Rp K G p.2 q.2) kvs ps
def valD (ps : DKv) (k : Key) : Option PyData := (ps.find? fun kv => decide (kv.1 = k)).map (·.2)
def putD (ps : DKv) (k : Key) (v : PyData) : DKv :=
  if (ps.any fun kv => decide (kv.1 = k)) = true then ps.map (fun kv => if kv.1 = k then (kv.1, v) else kv) else ps ++ [(k, v)]
section
variable {K : PySem.W.Frag} {G G' : Hp}
theorem KvR.val {kvs : List (Key × V)} {ps : DKv} (h : KvR K G kvs ps) (k : Key) : (valV kvs k = none ∧ valD ps k = none) ∨ ∃ v d, valV kvs k = some v ∧ valD ps k = some d ∧ Rp K G v d := by
  induction h with
  | nil => exact .inl ⟨rfl, rfl⟩
  | @cons p q a b h t ih =>
    obtain ⟨h1, h2⟩ := h
    by_cases e : p.1 = k
    · exact .inr ⟨p.2, q.2, by simp [valV, List.find?_cons, e], by simp [valD, List.find?_cons, ← h1, e], h2⟩
    · have e2 : ¬ q.1 = k := by rw [← h1]; exact e
      have z1 : valV (p :: a) k = valV a k := by simp [valV, List.find?_cons, e]
      have z2 : valD (q :: b) k = valD b k := by simp [valD, List.find?_cons, e2]
      rw [z1, z2]
      exact ih
theorem KvR.any {kvs : List (Key × V)} {ps : DKv} (h : KvR K G kvs ps) (k : Key) : (kvs.any fun kv => decide (kv.1 = k)) = ps.any fun kv => decide (kv.1 = k) := by
  induction h with
  | nil => rfl
  | @cons p q a b h t ih => rw [List.any_cons, List.any_cons, ih, h.1]
theorem KvR.app {kvs kvs' : List (Key × V)} {ps ps' : DKv} (h : KvR K G kvs ps) (h' : KvR K G kvs' ps') : KvR K G (kvs ++ kvs') (ps ++ ps') := by
  induction h with
  | nil => exact h'
  | cons h t ih => exact .cons h ih
theorem KvR.map {kvs : List (Key × V)} {ps : DKv} (h : KvR K G kvs ps) (k : Key) {v : V} {d : PyData} (r : Rp K G v d) : KvR K G (kvs.map fun kv => if kv.1 = k then (kv.1, v) else kv) (ps.map fun kv => if kv.1 = k then (kv.1, d) else kv) := by
  induction h with
  | nil => exact .nil
  | @cons p q a b h t ih =>
    refine .cons ?_ ih
    obtain ⟨h1, h2⟩ := h
    dsimp only
    by_cases e : p.1 = k
    · rw [if_pos e, if_pos (show q.1 = k by rw [← h1]; exact e)]; exact ⟨h1, r⟩
    · rw [if_neg e, if_neg (show ¬ q.1 = k by rw [← h1]; exact e)]; exact ⟨h1, h2⟩
theorem KvR.put {kvs : List (Key × V)} {ps : DKv} (h : KvR K G kvs ps) (k : Key) {v : V} {d : PyData} (r : Rp K G v d) : KvR K G (putK kvs k v) (putD ps k d) := by
  unfold putK putD
  rw [h.any k]
  split
  · exact h.map k r
  · exact h.app (.cons ⟨rfl, r⟩ .nil)
theorem KvR.len {kvs : List (Key × V)} {ps : DKv} (h : KvR K G kvs ps) : kvs.length = ps.length := Paired.length h
def mergeD (ps more : DKv) : DKv := more.foldl (fun acc kv => putD acc kv.1 kv.2) ps
theorem KvR.merge {more : List (Key × V)} {pm : DKv} (h : KvR K G more pm) : ∀ {kvs : List (Key × V)} {ps : DKv}, KvR K G kvs ps → KvR K G (mergeK kvs more) (mergeD ps pm) := by
  induction h with
  | nil => intro _ _ h; exact h
  | @cons p q a b h t ih =>
    intro kvs ps h0
    have z := h0.put p.1 h.2
    obtain ⟨h1, _⟩ := h
    show KvR K G (mergeK (putK kvs p.1 p.2) a) (mergeD (putD ps q.1 q.2) b)
    rw [← h1]
    exact ih z
theorem dic_rep {y : HO} {ps : DKv} (h : COk K G y (.dic ps)) : ∃ kvs, y = .dK kvs ∧ KvR K G kvs ps := by
  cases y <;> first | exact ⟨_, rfl, h⟩ | exact h.elim
end

/-- a dict at τ that others may change -/
def dicOb (K : PySem.W.Frag) (τ : Addr) (ps : DKv) : Ob where
  fp := fun a => a = τ
  ok := fun G H => ∃ kvs, H τ = some (.dK kvs) ∧ KvR K G kvs ps
  st := fun G H G' H' ⟨kvs, h1, h2⟩ s h => ⟨kvs, by rw [h τ rfl]; exact h1, Paired.mapP h2 fun a b z => ⟨z.1, Rp.sub s z.2⟩⟩
section
variable {K : Kx} {ρ : List Sl} {o : Ob} {R : RD} {N B C : RE} {te ta tb tc : TE} {tt : TT} {i : Nat} {T : TA} {ts : TS}
def kD : Key → PyData
  | .inl n => .int n
  | .inr s => .str s
theorem vok_key {K : PySem.W.Frag} {G σ H x} {k : Key} (h : VOk K o ρ G σ H x (.d (kD k))) : x = kV k := by cases k <;> cases h <;> rfl
/-- d[k] of a shared dict -/
theorem xe_oget {td : TE} {τ : Addr} {ps : DKv} (h : XE K td ρ o fun dv ρ1 o1 => dv = .raw (.ref τ) ∧ XE K ta ρ1 o1 fun b ρ2 o2 => ∃ (k : Key) (d : PyData), b = .d (kD k) ∧ o2 = dicOb K τ ps ∧ valD ps k = some d ∧ R (.d d) ρ2 o2) : XE K (tDGet td ta) ρ o R := fun G σ H e Q q =>
  h.seq e fun x a ρ1 o1 G1 H1 ⟨hd, r1⟩ s1 e1 ok1 fr1 => by
    subst hd
    refine r1.seq e1 fun y b ρ2 o2 G2 H2 ⟨k, d, hb, ho, hv, r⟩ s2 e2 ok2 fr2 => ?_
    subst hb ho
    obtain ⟨kvs, h1, h2⟩ := e2.wd.ok
    rcases h2.val k with ⟨_, z⟩ | ⟨v, d', z1, z2, rv⟩
    · rw [z] at hv; cases hv
    · rw [z2] at hv
      cases hv
      refine ⟨τ, v, ok1, ?_, q _ _ _ _ _ _ r (s1.trans s2) e2 rv trivial⟩
      rw [← z1, vok_key ok2]
      exact DGet.k h1
/-- d[k] = v of a shared dict -/
theorem xs_oput {td : TE} {τ : Addr} {ps : DKv} (h : XE K tc ρ o (HandR fun v ρ0 o0 => XE K td ρ0 o0 fun dv ρ1 o1 => dv = .raw (.ref τ) ∧ XE K ta ρ1 o1 fun b ρ2 o2 => ∃ (k : Key) (d : PyData), b = .d (kD k) ∧ v = .d d ∧ o2 = dicOb K τ ps ∧ ps.length < sizeLine ∧ N ρ2 (dicOb K τ (putD ps k d)))) :
    XS K (sDPut td ta tc) ρ o N R B C := fun G σ H e D qn qr qb qc =>
  h.seq e fun w v ρ0 o0 G0 H0 r0 s0 e0 ok0 fr0 => by
    have r0 : ∃ x, v = x ∧ Kept [] v ∧ XE K td ρ0 o0 fun dv ρ1 o1 => dv = .raw (.ref τ) ∧ XE K ta ρ1 o1 fun b ρ2 o2 => ∃ (k : Key) (d : PyData), b = .d (kD k) ∧ v = .d d ∧ o2 = dicOb K τ ps ∧ ps.length < sizeLine ∧ N ρ2 (dicOb K τ (putD ps k d)) := by
      cases v with
      | d x => exact ⟨_, rfl, trivial, r0⟩
      | raw x => exact ⟨_, rfl, trivial, r0⟩
      | sl _ _ => exact False.elim r0
      | new _ => exact False.elim r0
    obtain ⟨_, _, _, r0⟩ := r0
    refine r0.seq e0 fun x a ρ1 o1 G1 H1 ⟨hd, r1⟩ s1 e1 ok1 fr1 => ?_
    subst hd
    refine r1.seq e1 fun y b ρ2 o2 G2 H2 ⟨k, d, hb, hv, ho, hl, n⟩ s2 e2 ok2 fr2 => ?_
    subst hb hv ho
    have okw := ok0.step (s1.trans s2) trivial
    obtain ⟨kvs, h1, h2⟩ := e2.wd.ok
    have s12 := (s0.trans s1).trans s2
    have ne : ∀ a, Own ρ2 σ a → a ≠ τ := fun a ha z => e2.onf a ha z
    have stp : Stp ρ σ o G H ρ2 σ (dicOb K τ (putD ps k d)) G2 (upd H2 τ (.dK (putK kvs k w))) := s12.trans ⟨Sub.refl, fun a z hz h3 _ => by rw [upd_ne h3]; exact hz, fun _ h _ _ _ => h, fun _ h => .inl h, fun _ h => .inl h⟩
    refine ⟨τ, _, ok1, ?_, qn ρ2 (dicOb K τ (putD ps k d)) G2 σ (upd H2 τ (.dK (putK kvs k w))) n stp ?_⟩
    · rw [vok_key ok2]
      exact DPut.k h1 (by rw [h2.len]; exact hl)
    · refine ⟨⟨⟨fun a z hz => ?_, e2.wd.nfp, fun a ha => ?_, ⟨_, upd_same, h2.put k okw⟩⟩, e2.len, fun j s hs => ?_, e2.dis, e2.onf⟩, e.wo.step stp⟩
      · rw [upd_ne (show a ≠ τ from fun q => by rw [q, e2.wd.nfp τ rfl] at hz; cases hz)]; exact e2.wd.sub _ _ hz
      · have : a = τ := ha
        subst this
        exact ⟨_, upd_same⟩
      · obtain ⟨ov, k1, k2⟩ := e2.sl j s hs
        refine ⟨ov, k1, k2.step Sub.refl fun q c hsc hv => ?_⟩
        subst hsc
        have ow : Own ρ2 σ q := ⟨j, ⟨c, hs⟩, by rw [k1, hv]⟩
        exact ⟨(e2.occ_own ow).1, upd_ne (ne q ow)⟩
/-- pairs of a display -/
inductive PPairs (K : Kx) : List (TE × TE) → List Sl → Ob → (DKv → RE) → Prop
  | nil {ρ : List Sl} {o : Ob} {J : DKv → RE} (r : J [] ρ o) : PPairs K [] ρ o J
  | cons {tk tv : TE} {r : List (TE × TE)} {ρ : List Sl} {o : Ob} {J : DKv → RE} (M : Key → PyData → RE) (h : XE K tk ρ o fun a ρ1 o1 => ∃ k : Key, a = .d (kD k) ∧ XEF K tv ρ1 o1 fun b ρ2 o2 => ∃ d, b = .d d ∧ M k d ρ2 o2)
      (t : ∀ k d ρ2 o2, M k d ρ2 o2 → PPairs K r ρ2 o2 fun ps => J ((k, d) :: ps)) : PPairs K ((tk, tv) :: r) ρ o J
theorem PPairs.run {trs : List (TE × TE)} {J : DKv → RE} (h : PPairs K trs ρ o J) : ∀ G σ H, En K o ρ G σ H → ∀ Q : List (V × V) → Hp → Prop,
    (∀ vs ps ρ' o' G' H', J ps ρ' o' → Stp ρ σ o G H ρ' σ o' G' H' → En K o' ρ' G' σ H' → KvR K G' vs ps → Q (vs.map fun kv => (kV kv.1, kv.2)) H') → tPairs trs σ H Q := by
  induction h with
  | nil r => intro G σ H e Q q; exact q [] _ _ _ _ _ r Stp.refl e .nil
  | cons M h t ih =>
    intro G σ H e Q q
    refine h.seq e fun x a ρ1 o1 G1 H1 ⟨k, hk, r1⟩ s1 e1 ok1 fr1 => ?_
    subst hk
    refine XE.seq r1 e1 fun y b ρ2 o2 G2 H2 ⟨d, hd, m⟩ s2 e2 ok2 fr2 => ?_
    subst hd
    refine ih k d ρ2 o2 m G2 σ H2 e2 _ fun vs ps ρ3 o3 G3 H3 r3 s3 e3 ok3 => ?_
    rw [vok_key ok1]
    exact q ((k, y) :: vs) _ _ _ _ _ r3 ((s1.trans s2).trans s3) e3 (.cons ⟨rfl, Rp.sub s3.g ok2⟩ ok3)
/-- a displayed dict: fresh -/
theorem xe_disp {trs : List (TE × TE)} (h : PPairs K trs ρ o fun ps ρ' o' => ps.length ≤ 15 ∧ R (.new (.dic (mergeD [] ps))) ρ' o') : XE K (tDisp trs) ρ o R := fun G σ H e Q q p hp => by
  refine h.run G σ (upd H p (.dK [])) (e.newO hp) _ fun vs ps ρ' o' G' H' ⟨hl, r⟩ s e' ok => ?_
  have nf := nofp e hp
  have no := noown e hp
  have hpp : H' p = some (.dK []) := s.h p _ upd_same nf no
  have gp : G' p = none := s.n p (e.wd.gnone hp) ⟨_, upd_same⟩ nf no
  have fr : H p = none ∨ o.fp p ∨ Own ρ σ p := .inl hp
  have nf' : ¬ o'.fp p := fun z => by
    rcases s.f p z with w | w | w
    · exact nf w
    · rw [upd_same] at w; cases w
    · exact no w
  have no' : ¬ Own ρ' σ p := fun z => by
    rcases s.w p z with w | w | w
    · exact no w
    · rw [upd_same] at w; cases w
    · exact nf w
  refine ⟨hpp, vs, rfl, by rw [ok.len]; exact hl, ?_⟩
  have s1 : Stp ρ σ o G H ρ' σ o' G' H' := (Stp.newO hp).trans s
  have s2 : Stp ρ σ o G H ρ' σ o' G' (upd H' p (.dK (mergeK [] vs))) :=
    ⟨s1.g, fun a z hz h1 h2 => by rw [upd_ne (ne_of_none hz hp)]; exact s1.h a z hz h1 h2, s1.n, s1.f, s1.w⟩
  refine q _ _ _ _ _ _ r s2 (e'.mutX gp nf' no' (e.wo.step s2)) ⟨p, _, rfl, gp, upd_same, ?_, nf', no'⟩ fun p' hp' => by cases hp'; exact fr
  exact KvR.merge ok (kvs := []) (ps := []) .nil

/-! ### changing what is known of the objects -/
theorem XS.enter {ts : TS} (h : ∀ G σ H, En K o ρ G σ H → ∃ o', EnB K o' ρ G σ H ∧ (∀ a, o'.fp a → o.fp a ∨ H a = none ∨ Own ρ σ a) ∧ (∀ a, o'.fp a → o.fp a) ∧ XS K ts ρ o' N R B C) : XS K ts ρ o N R B C := fun G σ H e D qn qr qb qc => by
  obtain ⟨o', e', hf, hf2, x⟩ := h G σ H e
  have s0 : Stp ρ σ o G H ρ σ o' G H := ⟨Sub.refl, fun _ _ h _ _ => h, fun _ h _ _ _ => h, hf, fun _ h => .inl h⟩
  exact x G σ H ⟨e', e.wo.step s0⟩ D (fun _ _ _ _ _ n s e => qn _ _ _ _ _ n (s0.trans s) e) (fun _ _ _ _ _ _ _ n s e ok fr => qr _ _ _ _ _ _ _ n (s0.trans s) e ok (fr.back s0)) (fun _ _ _ _ _ n s e => qb _ _ _ _ _ n (s0.trans s) e) (fun _ _ _ _ _ n s e => qc _ _ _ _ _ n (s0.trans s) e)
/-- objects that are not needed any more -/
theorem xs_forget {ts : TS} (h : XS K ts ρ Ob.emp N R B C) : XS K ts ρ o N R B C := XS.enter fun G σ H e =>
  ⟨Ob.emp, ⟨⟨e.wd.sub, fun _ z => z.elim, fun _ z => z.elim, trivial⟩, e.len, e.sl, e.dis, fun _ _ z => z⟩, fun _ z => z.elim, fun _ z => z.elim, h⟩
/-- more is known than is needed -/
structure Ob.le (o o' : Ob) : Prop where
  fp : ∀ a, o'.fp a ↔ o.fp a
  ok : ∀ G H, o.ok G H → o'.ok G H
theorem EnB.le {o o' : Ob} {G σ H} (e : EnB K o ρ G σ H) (l : Ob.le o o') : EnB K o' ρ G σ H :=
  ⟨⟨e.wd.sub, fun a h => e.wd.nfp a ((l.fp a).mp h), fun a h => e.wd.occ a ((l.fp a).mp h), l.ok _ _ e.wd.ok⟩, e.len, e.sl, e.dis, fun a h z => e.onf a h ((l.fp a).mp z)⟩
theorem Stp.le {ρ ρ' : List Sl} {σ σ' : L2.St} {o o1 o2 : Ob} {G H G' H' : Hp} (s : Stp ρ σ o G H ρ' σ' o1 G' H') (l : Ob.le o1 o2) : Stp ρ σ o G H ρ' σ' o2 G' H' := ⟨s.g, s.h, s.n, fun a h => s.f a ((l.fp a).mp h), s.w⟩
theorem En.le {o o' : Ob} {G σ H} (e : En K o ρ G σ H) (l : Ob.le o o') : En K o' ρ G σ H := ⟨e.toEnB.le l, e.wo.step (Stp.refl.le l)⟩
theorem VOk.le {ρ : List Sl} {σ : L2.St} {o1 o2 : Ob} {G H : Hp} {v : V} {dv : DV} (h : VOk K o1 ρ G σ H v dv) (l : Ob.le o1 o2) : VOk K o2 ρ G σ H v dv := by
  cases dv with
  | new c => obtain ⟨p, y, a, b, c, d, e, f⟩ := h; exact ⟨p, y, a, b, c, d, fun z => e ((l.fp p).mp z), f⟩
  | d _ => exact h
  | raw _ => exact h
  | sl _ _ => exact h
theorem xs_le {ts : TS} (h : XS K ts ρ o (fun ρ' o' => ∃ o2, Ob.le o' o2 ∧ N ρ' o2) (fun dv ρ' o' => ∃ o2, Ob.le o' o2 ∧ R dv ρ' o2) (fun ρ' o' => ∃ o2, Ob.le o' o2 ∧ B ρ' o2) (fun ρ' o' => ∃ o2, Ob.le o' o2 ∧ C ρ' o2)) : XS K ts ρ o N R B C := fun G σ H e D qn qr qb qc =>
  h G σ H e D (fun _ _ _ _ _ ⟨o2, l, n⟩ s e => qn _ _ _ _ _ n (s.le l) (e.le l)) (fun _ _ _ _ _ _ _ ⟨o2, l, n⟩ s e ok fr => qr _ _ _ _ _ _ _ n (s.le l) (e.le l) (ok.le l) fr) (fun _ _ _ _ _ ⟨o2, l, n⟩ s e => qb _ _ _ _ _ n (s.le l) (e.le l)) (fun _ _ _ _ _ ⟨o2, l, n⟩ s e => qc _ _ _ _ _ n (s.le l) (e.le l))
/-- an owned dict is given to others -/
theorem xs_share {ps : DKv} (hi : ρ[i]? = some (.own (.dic ps))) (h : ∀ τ, XS K ts (ρ.set i (.raw (.ref τ))) (dicOb K τ ps) N R B C) : XS K ts ρ Ob.emp N R B C := fun G σ H e D qn qr qb qc => by
  obtain ⟨p, y, h1, h2, h3, ok, nf⟩ := e.own_at hi
  obtain ⟨kvs, rfl, kv⟩ := dic_rep ok
  have hl : i < ρ.length := (List.getElem?_eq_some_iff.mp hi).1
  have own : Own ρ σ p := ⟨i, ⟨_, hi⟩, h1⟩
  have back : ∀ j q, OwnAt (ρ.set i (.raw (.ref p))) σ j q → OwnAt ρ σ j q ∧ j ≠ i := fun j q ⟨⟨c, hc⟩, hs⟩ => by
    by_cases hj : j = i
    · subst hj; rw [List.getElem?_set_self hl] at hc; cases hc
    · rw [List.getElem?_set_ne (Ne.symm hj)] at hc; exact ⟨⟨⟨c, hc⟩, hs⟩, hj⟩
  have s0 : Stp ρ σ Ob.emp G H (ρ.set i (.raw (.ref p))) σ (dicOb K p ps) G H := ⟨Sub.refl, fun _ _ h _ _ => h, fun _ h _ _ _ => h, fun a ha => .inr (.inr (by have : a = p := ha; rw [this]; exact own)), fun a ⟨j, hq⟩ => .inl ⟨j, (back j a hq).1⟩⟩
  have e2 : En K (dicOb K p ps) (ρ.set i (.raw (.ref p))) G σ H := by
    refine ⟨⟨⟨e.wd.sub, fun a ha => ?_, fun a ha => ?_, ⟨kvs, h3, kv⟩⟩, by simpa using e.len, fun j s' hj => ?_, fun j k q a b => e.dis j k q (back j q a).1 (back k q b).1, fun q ⟨j, hq⟩ z => ?_⟩, e.wo.step s0⟩
    · have : a = p := ha
      rw [this]; exact h2
    · have : a = p := ha
      rw [this]; exact ⟨_, h3⟩
    · by_cases hji : j = i
      · subst hji
        rw [List.getElem?_set_self hl] at hj
        cases hj
        exact ⟨_, h1, rfl⟩
      · rw [List.getElem?_set_ne (Ne.symm hji)] at hj
        exact e.sl j s' hj
    · have : q = p := z
      subst this
      exact (back j q hq).2 (e.dis j i q (back j q hq).1 ⟨⟨_, hi⟩, h1⟩)
  exact h p G σ H e2 D (fun _ _ _ _ _ n s e => qn _ _ _ _ _ n (s0.trans s) e) (fun _ _ _ _ _ _ _ n s e ok fr => qr _ _ _ _ _ _ _ n (s0.trans s) e ok (fr.back s0)) (fun _ _ _ _ _ n s e => qb _ _ _ _ _ n (s0.trans s) e) (fun _ _ _ _ _ n s e => qc _ _ _ _ _ n (s0.trans s) e)
/-! ### small steps for a walk -/
theorem kept_d {x : PyData} : Kept ρ (.d x) := trivial
theorem kept_r {v : V} : Kept ρ (.raw v) := trivial
theorem kept_n {c : Cont} : Kept ρ (.new c) := trivial
theorem asr_d {x : PyData} (n : N (ρ.set i (.val x)) o) : AsR i N (.d x) ρ o := n
theorem asr_r {v : V} (n : N (ρ.set i (.raw v)) o) : AsR i N (.raw v) ρ o := n
theorem asr_n {c : Cont} (n : N (ρ.set i (.own c)) o) : AsR i N (.new c) ρ o := n
theorem hr_d {R' : DV → RE} {x : PyData} (n : R' (.d x) ρ o) : HandR R' (.d x) ρ o := n
theorem hr_r {R' : DV → RE} {v : V} (n : R' (.raw v) ρ o) : HandR R' (.raw v) ρ o := n
theorem fz_d {x : PyData} (n : R (.d x) ρ o) : FzR R (.d x) ρ o := n
theorem fz_r {v : V} (n : R (.raw v) ρ o) : FzR R (.raw v) ρ o := n
theorem fz_n {ds : List PyData} (n : R (.d (.list ds)) ρ o) : FzR R (.new (.lst ds)) ρ o := n
theorem out_d {R' : DV → Ob → Prop} {x : PyData} (n : R' (.d x) o) : OutR R' (.d x) ρ o := n
theorem out_r {R' : DV → Ob → Prop} {v : V} (n : R' (.raw v) o) : OutR R' (.raw v) ρ o := n
theorem out_n {R' : DV → Ob → Prop} {c : Cont} (n : R' (.new c) o) : OutR R' (.new c) ρ o := n
theorem out_s {R' : DV → Ob → Prop} {c : Cont} (n : R' (.new c) o) : OutR R' (.sl i c) ρ o := n
/-- a sequence, cut by what holds between -/
theorem XS.mono {ts : TS} {N' B' C' : RE} {R' : RD} (h : XS K ts ρ o N R B C) (hn : ∀ ρ o, N ρ o → N' ρ o) (hr : ∀ d ρ o, R d ρ o → R' d ρ o) (hb : ∀ ρ o, B ρ o → B' ρ o) (hc : ∀ ρ o, C ρ o → C' ρ o) : XS K ts ρ o N' R' B' C' := fun G σ H e D qn qr qb qc =>
  h G σ H e D (fun _ _ _ _ _ n => qn _ _ _ _ _ (hn _ _ n)) (fun _ _ _ _ _ _ _ n => qr _ _ _ _ _ _ _ (hr _ _ _ n)) (fun _ _ _ _ _ n => qb _ _ _ _ _ (hb _ _ n)) (fun _ _ _ _ _ n => qc _ _ _ _ _ (hc _ _ n))
theorem xs_cut {t u : TS} (M : RE) (h : XS K t ρ o M R B C) (k : ∀ ρ1 o1, M ρ1 o1 → XS K u ρ1 o1 N R B C) : XS K (tSeq t u) ρ o N R B C :=
  xs_seq (XS.mono h k (fun _ _ _ h => h) (fun _ _ h => h) fun _ _ h => h)
/-- the rest under a name: the goals stay small -/
theorem xs_seqH {t u : TS} (h : ∀ rest : RE, (∀ ρ o, XS K u ρ o N R B C → rest ρ o) → XS K t ρ o rest R B C) : XS K (tSeq t u) ρ o N R B C := xs_seq (h _ fun _ _ h => h)
theorem xs_ifH {t u : TS} (h : ∀ Y Z : RE, (∀ ρ o, XS K t ρ o N R B C → Y ρ o) → (∀ ρ o, XS K u ρ o N R B C → Z ρ o) → XT K tt ρ o fun b ρ1 o1 => (b = true → Y ρ1 o1) ∧ (b = false → Z ρ1 o1)) : XS K (tIfS tt t u) ρ o N R B C :=
  xs_if (h _ _ (fun _ _ h => h) fun _ _ h => h)
end
end DL

set_option Elab.async false
set_option linter.all false
set_option maxRecDepth 100000
namespace DL
open PySem PySem.Spec PyProof.Rows L2
theorem ki_int_bool {n : Int} : kitB (tyN (.int n)) "bool" = some false := by show kitB "int" "bool" = _; decide +kernel
theorem ki_int_int {n : Int} : kitB (tyN (.int n)) "int" = some true := by show kitB "int" "int" = _; decide +kernel
theorem ki_int_str {n : Int} : kitB (tyN (.int n)) "str" = some false := by show kitB "int" "str" = _; decide +kernel
theorem ki_int_tuple {n : Int} : kitB (tyN (.int n)) "tuple" = some false := by show kitB "int" "tuple" = _; decide +kernel
theorem ki_int_list {n : Int} : kitB (tyN (.int n)) "list" = some false := by show kitB "int" "list" = _; decide +kernel
theorem ki_int_dict {n : Int} : kitB (tyN (.int n)) "dict" = some false := by show kitB "int" "dict" = _; decide +kernel
theorem ki_str_bool {n : Str} : kitB (tyN (.str n)) "bool" = some false := by show kitB "str" "bool" = _; decide +kernel
theorem ki_str_int {n : Str} : kitB (tyN (.str n)) "int" = some false := by show kitB "str" "int" = _; decide +kernel
theorem ki_str_str {n : Str} : kitB (tyN (.str n)) "str" = some true := by show kitB "str" "str" = _; decide +kernel
theorem ki_str_tuple {n : Str} : kitB (tyN (.str n)) "tuple" = some false := by show kitB "str" "tuple" = _; decide +kernel
theorem ki_str_list {n : Str} : kitB (tyN (.str n)) "list" = some false := by show kitB "str" "list" = _; decide +kernel
theorem ki_str_dict {n : Str} : kitB (tyN (.str n)) "dict" = some false := by show kitB "str" "dict" = _; decide +kernel
theorem ki_bool_bool {n : Bool} : kitB (tyN (.bool n)) "bool" = some true := by show kitB "bool" "bool" = _; decide +kernel
theorem ki_bool_int {n : Bool} : kitB (tyN (.bool n)) "int" = some true := by show kitB "bool" "int" = _; decide +kernel
theorem ki_bool_str {n : Bool} : kitB (tyN (.bool n)) "str" = some false := by show kitB "bool" "str" = _; decide +kernel
theorem ki_bool_tuple {n : Bool} : kitB (tyN (.bool n)) "tuple" = some false := by show kitB "bool" "tuple" = _; decide +kernel
theorem ki_bool_list {n : Bool} : kitB (tyN (.bool n)) "list" = some false := by show kitB "bool" "list" = _; decide +kernel
theorem ki_bool_dict {n : Bool} : kitB (tyN (.bool n)) "dict" = some false := by show kitB "bool" "dict" = _; decide +kernel
theorem ki_tuple_bool {n : List PyData} : kitB (tyN (.tuple n)) "bool" = some false := by show kitB "tuple" "bool" = _; decide +kernel
theorem ki_tuple_int {n : List PyData} : kitB (tyN (.tuple n)) "int" = some false := by show kitB "tuple" "int" = _; decide +kernel
theorem ki_tuple_str {n : List PyData} : kitB (tyN (.tuple n)) "str" = some false := by show kitB "tuple" "str" = _; decide +kernel
theorem ki_tuple_tuple {n : List PyData} : kitB (tyN (.tuple n)) "tuple" = some true := by show kitB "tuple" "tuple" = _; decide +kernel
theorem ki_tuple_list {n : List PyData} : kitB (tyN (.tuple n)) "list" = some false := by show kitB "tuple" "list" = _; decide +kernel
theorem ki_tuple_dict {n : List PyData} : kitB (tyN (.tuple n)) "dict" = some false := by show kitB "tuple" "dict" = _; decide +kernel
theorem ki_list_bool {n : List PyData} : kitB (tyN (.list n)) "bool" = some false := by show kitB "list" "bool" = _; decide +kernel
theorem ki_list_int {n : List PyData} : kitB (tyN (.list n)) "int" = some false := by show kitB "list" "int" = _; decide +kernel
theorem ki_list_str {n : List PyData} : kitB (tyN (.list n)) "str" = some false := by show kitB "list" "str" = _; decide +kernel
theorem ki_list_tuple {n : List PyData} : kitB (tyN (.list n)) "tuple" = some false := by show kitB "list" "tuple" = _; decide +kernel
theorem ki_list_list {n : List PyData} : kitB (tyN (.list n)) "list" = some true := by show kitB "list" "list" = _; decide +kernel
theorem ki_list_dict {n : List PyData} : kitB (tyN (.list n)) "dict" = some false := by show kitB "list" "dict" = _; decide +kernel
/-! ### the tape -/
def tapeKvs (ns : List Int) (a l s t : Int) : DKv := [(Sum.inr "cells", .list (ns.map .int)), (Sum.inr "at", .int a), (Sum.inr "left", .int l), (Sum.inr "seed", .int s), (Sum.inr "salt", .int t)]
structure TInv (ns : List Int) (a l s t : Int) : Prop where
  h : ∀ n ∈ ns, 0 ≤ n
  a0 : 0 ≤ a
  l0 : 0 ≤ l
  s0 : 0 ≤ s
  s1 : s < 2147483647
  t0 : 0 ≤ t
def tapeOb (K : PySem.W.Frag) (τ : Addr) : Ob where
  fp := fun a => a = τ
  ok := fun G H => ∃ ns a l s t, TInv ns a l s t ∧ (dicOb K τ (tapeKvs ns a l s t)).ok G H
  st := fun G H G' H' ⟨ns, a, l, s, t, i, h⟩ sb hh => ⟨ns, a, l, s, t, i, (dicOb K τ _).st G H G' H' h sb hh⟩
theorem tape_le {K : PySem.W.Frag} {τ : Addr} {ns a l s t} (i : TInv ns a l s t) : Ob.le (dicOb K τ (tapeKvs ns a l s t)) (tapeOb K τ) := ⟨fun _ => Iff.rfl, fun _ _ h => ⟨ns, a, l, s, t, i, h⟩⟩
theorem xs_tape {K : Kx} {τ : Addr} {ts : TS} {ρ : List Sl} {N B C : RE} {R : RD} (h : ∀ ns a l s t, TInv ns a l s t → XS K ts ρ (dicOb K τ (tapeKvs ns a l s t)) N R B C) : XS K ts ρ (tapeOb K τ) N R B C :=
  XS.enter fun G σ H e => by
    obtain ⟨ns, a, l, s, t, i, ok⟩ := e.wd.ok
    exact ⟨dicOb K τ (tapeKvs ns a l s t), ⟨⟨e.wd.sub, e.wd.nfp, e.wd.occ, ok⟩, e.len, e.sl, e.dis, e.onf⟩, fun _ h => .inl h, fun _ h => h, h ns a l s t i⟩
theorem tk_cells {ns a l s t} : valD (tapeKvs ns a l s t) (Sum.inr "cells") = some (.list (ns.map .int)) := by with_unfolding_all rfl
theorem tk_at {ns a l s t} : valD (tapeKvs ns a l s t) (Sum.inr "at") = some (.int a) := by with_unfolding_all rfl
theorem tk_left {ns a l s t} : valD (tapeKvs ns a l s t) (Sum.inr "left") = some (.int l) := by with_unfolding_all rfl
theorem tk_seed {ns a l s t} : valD (tapeKvs ns a l s t) (Sum.inr "seed") = some (.int s) := by with_unfolding_all rfl
theorem tk_salt {ns a l s t} : valD (tapeKvs ns a l s t) (Sum.inr "salt") = some (.int t) := by with_unfolding_all rfl
theorem tp_at {ns a l s t x} : putD (tapeKvs ns a l s t) (Sum.inr "at") (.int x) = tapeKvs ns x l s t := by with_unfolding_all rfl
theorem tp_left {ns a l s t x} : putD (tapeKvs ns a l s t) (Sum.inr "left") (.int x) = tapeKvs ns a x s t := by with_unfolding_all rfl
theorem tp_salt {ns a l s t x} : putD (tapeKvs ns a l s t) (Sum.inr "salt") (.int x) = tapeKvs ns a l s x := by with_unfolding_all rfl
section
variable {K : Kx} {τ : Addr} {ρ : List Sl} {N B C : RE} {R : RD} {ns : List Int} {a l s t x : Int} {i : Nat} {te : TE}
theorem xe_tget {k : Str} {d : PyData} (hv : valD (tapeKvs ns a l s t) (Sum.inr k) = some d) (hi : ρ[i]? = some (.raw (.ref τ))) (r : R (.d d) ρ (dicOb K τ (tapeKvs ns a l s t))) : XE K (tDGet (tVar i) (tC (.str k))) ρ (dicOb K τ (tapeKvs ns a l s t)) R :=
  xe_oget (xe_vr hi ⟨rfl, xe_str ⟨Sum.inr k, d, rfl, rfl, hv, r⟩⟩)
theorem xs_tput {k : Str} (F : Int → DKv) (hp : ∀ x, putD (tapeKvs ns a l s t) (Sum.inr k) (.int x) = F x) (hi : ρ[i]? = some (.raw (.ref τ))) (h : XE K te ρ (dicOb K τ (tapeKvs ns a l s t)) fun dv ρ' o' => ρ' = ρ ∧ o' = dicOb K τ (tapeKvs ns a l s t) ∧ ∃ x, dv = .d (.int x) ∧ N ρ (dicOb K τ (F x))) :
    XS K (sDPut (tVar i) (tC (.str k)) te) ρ (dicOb K τ (tapeKvs ns a l s t)) N R B C := xs_oput (τ := τ) (ps := tapeKvs ns a l s t) (XE.mono h fun dv ρ' o' ⟨h1, h2, x, h3, n⟩ => by
  subst h1 h2 h3
  exact xe_vr hi ⟨rfl, xe_str ⟨Sum.inr k, .int x, rfl, rfl, rfl, by show 5 < sizeLine; rw [sizeLine_eq]; decide, by rw [hp x]; exact n⟩⟩)
end
/-- the script, read -/
def scriptOb (K : PySem.W.Frag) (a : Addr) (ns : List Int) : Ob := ⟨fun _ => False, fun G _ => SqL K G a (ns.map V.int), fun _ _ _ _ h s _ => SqL.sub s h⟩
def S__law_take (K : PySem.W.Frag) : DS := fun dvs o R X => ∃ τ n, dvs = [.raw (.ref τ), .d (.int n)] ∧ o = tapeOb K τ ∧ 0 < n ∧ n ≤ 1000000 ∧ ∀ k, 0 ≤ k → k < n → R (.d (.int k)) (tapeOb K τ)

section
variable {K : Kx} {ρ : List Sl} {o : Ob} {R : RD} {N B C : RE} {te ta tb tc : TE} {tt : TT} {i : Nat} {T : TA} {g : TG} {is : List Nat}
theorem xc_abs {n : Int} (r : R (.d (.int (if n < 0 then -n else n))) ρ o) : XC K (fun xs H Q => ∃ i, xs = [.int i] ∧ Q (.int (if i < 0 then -i else i)) H) [.d (.int n)] ρ o R := fun G σ H vs e h0 Q q => by
  obtain ⟨v, rfl, h⟩ := va1 h0
  cases vok_int h
  exact ⟨n, rfl, xq_now q e r (.int _)⟩
/-- a comprehension over the script -/
theorem xe_lcI {tl : TE} (h : DL.XE K tl ρ o fun dv ρ1 o1 => ∃ a ns, dv = .raw (.ref a) ∧ o1 = scriptOb K a ns ∧ NoOw ρ1 is ∧ ∃ I : Nat → List PyData → Ob → Prop, I 0 [] o1 ∧
      (∀ k n acc o', ns[k]? = some n → acc.length < sizeLine → I k acc o' → ∃ ds, BT K g is (.int n) ds ∧ LcTurn K tt te ρ1 is ds o' fun y o2 => match y with | some d => (acc ++ [d]).length < sizeLine ∧ I (k + 1) (acc ++ [d]) o2 | none => I (k + 1) acc o2) ∧
      ∀ acc o', acc.length < sizeLine → I ns.length acc o' → R (.new (.lst acc)) ρ1 o') : DL.XE K (tLc (iList K tl) g tt te is) ρ o R := fun G σ H e0 Q q =>
  h G σ H e0 _ fun v dv ρ1 o1 G1 H1 ⟨a, ns, hd, ho, no, I, i0, it, ie⟩ s1 e1 okl _ => by
    subst hd
    subst ho
    have okl : v = .ref a := okl
    subst okl
    have hsq : SqL K G1 a (ns.map V.int) := e1.wd.ok
    refine ⟨a, rfl, ⟨_, SqL.sub e1.wd.sub hsq⟩, fun D hD => ?_⟩
    have fr := s1.old (.inl hD)
    refine lc_list (xs := ns.map V.int) (fun k H' => LcP K (I k) ρ σ o G H ρ1 G1 D H') (lc_start i0 s1 e1 hD) (fun k H' _ p => ?_) (fun k x H' hk p => ?_) fun H' p => ?_
    · obtain ⟨acc, o', G', xs, i, s, e, hD', gD, nf, nw, ok, hl, sb⟩ := p
      exact SqL.sub (sb.trans e.wd.sub) hsq
    · obtain ⟨acc, o', G', xs, i, s, e, hD', gD, nf, nw, ok, hl, sb⟩ := p
      rw [List.getElem?_map] at hk
      cases hn : ns[k]? with
      | none => rw [hn] at hk; cases hk
      | some n =>
        rw [hn] at hk
        cases hk
        obtain ⟨ds, bt, turn⟩ := it k n acc o' hn hl i
        exact lc_turn (I := I k) (I' := I (k + 1)) bt no fr s e hD' gD nf nw ok sb (.int _) hl e0.wo turn
    · rw [List.length_map] at p
      exact lc_end fr q ie p
end
section
variable {K : Kx}
theorem pp_str {s : Str} {tv : TE} {r : List (TE × TE)} {ρ : List Sl} {o : Ob} {J : DKv → RE} (h : XEF K tv ρ o fun b ρ2 o2 => ∃ d, b = .d d ∧ PPairs K r ρ2 o2 fun ps => J ((Sum.inr s, d) :: ps)) : PPairs K ((tC (.str s), tv) :: r) ρ o J :=
  .cons (fun k d ρ2 o2 => PPairs K r ρ2 o2 fun ps => J ((k, d) :: ps)) (xe_str ⟨Sum.inr s, rfl, h⟩) fun _ _ _ _ h => h
end
section
variable {K : Kx} {ρ : List Sl} {o : Ob} {R : RD}
/-- a tuple or a list -/
def IsSq (d : PyData) (ds : List PyData) : Prop := d = .tuple ds ∨ d = .list ds
theorem xc_lenQ {d : PyData} {ds : List PyData} (h : IsSq d ds) (r : R (.d (.int ds.length)) ρ o) : XC K (fun xs H Q => ∃ x n, xs = [x] ∧ LenV K x H n ∧ Q (.int (n : Nat)) H) [.d d] ρ o R := by
  rcases h with rfl | rfl
  · exact xc_lenT r
  · exact xc_lenL rfl r
theorem xr_ixQ {d : PyData} {ds : List PyData} {n : Int} {x : PyData} (h : IsSq d ds) (hx : atI ds n = some x) (r : R (.d x) ρ o) : XR K (rIx K) (.d d) (.d (.int n)) ρ o R := by
  rcases h with rfl | rfl
  · exact xr_ixT hx r
  · exact xr_ixL rfl hx r
end
section
variable {K : Kx} {ρ : List Sl} {o : Ob} {R : RD}
theorem xr_isN_non (r : R (.d (.bool true)) ρ o) : XR K (fun x y H Q => y = .non ∧ Q (.bl (decide (x = .non))) H) (.d (.none)) (.d .none) ρ o R := xr_isN r
theorem xr_notN_non (r : R (.d (.bool false)) ρ o) : XR K (fun x y H Q => y = .non ∧ Q (.bl (!decide (x = .non))) H) (.d (.none)) (.d .none) ρ o R := xr_notN r
theorem xr_isN_int {m : Int} (r : R (.d (.bool false)) ρ o) : XR K (fun x y H Q => y = .non ∧ Q (.bl (decide (x = .non))) H) (.d (.int m)) (.d .none) ρ o R := xr_isN r
theorem xr_notN_int {m : Int} (r : R (.d (.bool true)) ρ o) : XR K (fun x y H Q => y = .non ∧ Q (.bl (!decide (x = .non))) H) (.d (.int m)) (.d .none) ρ o R := xr_notN r
theorem xr_isN_str {m : Str} (r : R (.d (.bool false)) ρ o) : XR K (fun x y H Q => y = .non ∧ Q (.bl (decide (x = .non))) H) (.d (.str m)) (.d .none) ρ o R := xr_isN r
theorem xr_notN_str {m : Str} (r : R (.d (.bool true)) ρ o) : XR K (fun x y H Q => y = .non ∧ Q (.bl (!decide (x = .non))) H) (.d (.str m)) (.d .none) ρ o R := xr_notN r
theorem xr_isN_bl {m : Bool} (r : R (.d (.bool false)) ρ o) : XR K (fun x y H Q => y = .non ∧ Q (.bl (decide (x = .non))) H) (.d (.bool m)) (.d .none) ρ o R := xr_isN r
theorem xr_notN_bl {m : Bool} (r : R (.d (.bool true)) ρ o) : XR K (fun x y H Q => y = .non ∧ Q (.bl (!decide (x = .non))) H) (.d (.bool m)) (.d .none) ρ o R := xr_notN r
theorem xr_isN_tup {m : List PyData} (r : R (.d (.bool false)) ρ o) : XR K (fun x y H Q => y = .non ∧ Q (.bl (decide (x = .non))) H) (.d (.tuple m)) (.d .none) ρ o R := xr_isN r
theorem xr_notN_tup {m : List PyData} (r : R (.d (.bool true)) ρ o) : XR K (fun x y H Q => y = .non ∧ Q (.bl (!decide (x = .non))) H) (.d (.tuple m)) (.d .none) ρ o R := xr_notN r
theorem xr_isN_lst {m : List PyData} (r : R (.d (.bool false)) ρ o) : XR K (fun x y H Q => y = .non ∧ Q (.bl (decide (x = .non))) H) (.d (.list m)) (.d .none) ρ o R := xr_isN r
theorem xr_notN_lst {m : List PyData} (r : R (.d (.bool true)) ρ o) : XR K (fun x y H Q => y = .non ∧ Q (.bl (!decide (x = .non))) H) (.d (.list m)) (.d .none) ρ o R := xr_notN r
end
theorem atD_of {α : Type} {xs : List α} {z : Int} {j : Nat} {v : α} (e : z = (j : Int)) (h : xs[j]? = some v) : atI xs z = some v := by
  rw [e]
  have hj := (List.getElem?_eq_some_iff.mp h).1
  unfold atI ixN
  rw [if_pos (by omega), if_pos (by omega)]
  simpa using h
section
variable {K : Kx} {ρ : List Sl} {o : Ob} {R : RD} {T : TA} {te : TE}
theorem ty_s {s : Str} : TyD "str" (.d (.str s)) := rfl
theorem ty_l {s : List PyData} : TyD "list" (.d (.list s)) := rfl
theorem ty_o {i : Nat} {s : List PyData} : TyD "list" (.sl i (.lst s)) := rfl
theorem ty_n {s : List PyData} : TyD "list" (.new (.lst s)) := rfl
theorem nat_small {n : Nat} (h : Nat.ble n 1000 = true) : n ≤ sizeLine := Nat.le_trans (Nat.ble_eq.mp h) (by rw [sizeLine_eq]; decide)
theorem kept_s {i : Nat} {c : Cont} (h : ρ[i]? = some (.own c)) : DL.Kept ρ (.sl i c) := h
/-- arguments that are data -/
def XAD (K : Kx) (T : TA) (ρ : List Sl) (o : Ob) (R : List PyData → RE) : Prop := XAF K T ρ o fun dvs ρ' o' => ∃ ds : List PyData, dvs = ds.map .d ∧ R ds ρ' o'
theorem XAF.mono {R R' : List DV → RE} (h : XAF K T ρ o R) (k : ∀ ds ρ' o', R ds ρ' o' → R' ds ρ' o') : XAF K T ρ o R' := XA.mono h fun ds ρ' o' ⟨a, b⟩ => ⟨a, k _ _ _ b⟩
theorem xad_nil {R : List PyData → RE} (r : R [] ρ o) : XAD K tNil ρ o R := xaf_nil ⟨[], rfl, r⟩
theorem xad_cons {R : List PyData → RE} (h : XEF K te ρ o fun a ρ1 o1 => ∃ d, a = .d d ∧ XAD K T ρ1 o1 fun ds ρ2 o2 => R (d :: ds) ρ2 o2) : XAD K (tCons te T) ρ o R :=
  xaf_cons (XE.mono h fun a ρ1 o1 ⟨d, hd, r⟩ => by
    subst hd
    exact hr_d (XAF.mono r fun dvs ρ2 o2 ⟨ds, e, r⟩ => ⟨d :: ds, by rw [e]; rfl, r⟩))
theorem xe_tupD (h : XAD K T ρ o fun ds ρ' o' => ds.length ≤ sizeLine ∧ R (.d (.tuple ds)) ρ' o') : DL.XE K (tTup T) ρ o R := xe_tup (XAF.mono h fun dvs ρ' o' ⟨ds, e, l, r⟩ => ⟨ds, e, l, r⟩)
theorem xe_lstD (h : XAD K T ρ o fun ds ρ' o' => ds.length ≤ sizeLine ∧ R (.new (.lst ds)) ρ' o') : DL.XE K (tLst T) ρ o R := xe_lst (XAF.mono h fun dvs ρ' o' ⟨ds, e, l, r⟩ => ⟨ds, e, l, r⟩)
theorem len_small {α : Type} {l : List α} (h : Nat.ble l.length 1000 = true) : l.length ≤ sizeLine := by
  have := Nat.ble_eq.mp h
  exact Nat.le_trans this (by rw [sizeLine_eq]; decide)
end
/-- a call that never comes -/
def S_never (_ : PySem.W.Frag) : DS := fun _ _ _ _ => False
theorem never_ok {P : Program} {w : World} {K : PySem.W.Frag} {mg : Str → Option Value} {base : Heap} {k : Nat} {f : Addr} {fd : FuncData} {ps : List Str} : FnOk P w K mg base CX0 k f fd ps (spD K (S_never K)) :=
  ⟨fun vs H Q E ⟨_, _, _, _, _, _, _, z, _⟩ => z.elim, fun A outer s H args us vs Q E _ _ _ _ ⟨_, _, _, _, _, _, _, z, _⟩ => z.elim⟩
/-! ### known tests -/
theorem bs_t {A B : Prop} (h : A) : (true = true → A) ∧ (true = false → B) := ⟨fun _ => h, fun z => nomatch z⟩
theorem bs_f {A B : Prop} (h : B) : (false = true → A) ∧ (false = false → B) := ⟨fun z => (nomatch z), fun _ => h⟩
theorem bs_nt {A B : Prop} (h : B) : ((!true) = true → A) ∧ ((!true) = false → B) := ⟨fun z => (nomatch z), fun _ => h⟩
theorem bs_nf {A B : Prop} (h : A) : ((!false) = true → A) ∧ ((!false) = false → B) := ⟨fun _ => h, fun z => nomatch z⟩
theorem bs_d {A B p : Prop} [Decidable p] (h : p → A) (k : ¬ p → B) : (decide p = true → A) ∧ (decide p = false → B) := ⟨fun z => h (of_decide_eq_true z), fun z => k (of_decide_eq_false z)⟩
theorem bs_nd {A B p : Prop} [Decidable p] (h : ¬ p → A) (k : p → B) : ((!decide p) = true → A) ∧ ((!decide p) = false → B) := ⟨fun z => h (of_decide_eq_false (by simpa using z)), fun z => k (of_decide_eq_true (by simpa using z))⟩
theorem bs_b {A B : Prop} {b : Bool} (h : b = true → A) (k : b = false → B) : (b = true → A) ∧ (b = false → B) := ⟨h, k⟩
theorem bs_nb {A B : Prop} {b : Bool} (h : b = false → A) (k : b = true → B) : ((!b) = true → A) ∧ ((!b) = false → B) := ⟨fun z => h (by simpa using z), fun z => k (by simpa using z)⟩
theorem noow_cons {ρ : List Sl} {j : Nat} {js : List Nat} (h : Nat.blt j ρ.length = true ∧ ∀ c, ρ[j]? ≠ some (.own c)) (t : NoOw ρ js) : NoOw ρ (j :: js) := fun i hi => (List.mem_cons.mp hi).elim (fun e => by rw [e]; exact ⟨lt_of_blt h.1, h.2⟩) (t i)
theorem noow_nil {ρ : List Sl} : NoOw ρ [] := fun i hi => nomatch hi
/-! ### promises of the law's own defs -/
def S__law_tape (K : PySem.W.Frag) : DS := fun dvs o R X => ∃ a ns, dvs = [.raw (.ref a)] ∧ o = scriptOb K a ns ∧ ns.length ≤ 63 ∧ ∀ cs s, (∀ n ∈ cs, 0 ≤ n) → 0 ≤ s → s < 2147483647 → R (.new (.dic (tapeKvs cs 0 0 s 0))) o
/-- data of a depth, without dicts -/
inductive Sm : Nat → PyData → Prop where
  | non {n : Nat} : Sm n .none
  | bl {n : Nat} {b : Bool} : Sm n (.bool b)
  | int {n : Nat} {b : Int} : Sm n (.int b)
  | str {n : Nat} {b : Str} : Sm n (.str b)
  | tup {n : Nat} {ds : List PyData} (l : ds.length < 2 ^ 62) (h : ∀ d ∈ ds, Sm n d) : Sm (n + 1) (.tuple ds)
  | lst {n : Nat} {ds : List PyData} (l : ds.length < 2 ^ 62) (h : ∀ d ∈ ds, Sm n d) : Sm (n + 1) (.list ds)
def S__law_is_integer (_ : PySem.W.Frag) : DS := fun dvs o R X => ∃ n, dvs = [.d (.int n)] ∧ R (.d (.bool true)) o
def S__law_same_items (n : Nat) (_ : PySem.W.Frag) : DS := fun dvs o R X => ∃ m d ds, dvs = [.d d, .d d] ∧ n = m + 1 ∧ IsSq d ds ∧ ds.length < 2 ^ 62 ∧ (∀ d ∈ ds, Sm m d) ∧ R (.d (.bool true)) o
def S__law_same (n : Nat) (_ : PySem.W.Frag) : DS := fun dvs o R X => ∃ d, dvs = [.d d, .d d] ∧ Sm n d ∧ R (.d (.bool true)) o
/-- the codes of texts -/
def okc (c : Nat) : Prop := c = 10 ∨ (32 ≤ c ∧ c ≤ 126 ∧ c ≠ 37)
instance (c : Nat) : Decidable (okc c) := by unfold okc; infer_instance
structure TextOk (s : Str) (n : Nat) : Prop where
  len : s.length ≤ n
  ok : ∀ c ∈ s.cps.toList, okc c
def S__law_snippet (K : PySem.W.Frag) : DS := fun dvs o R X => ∃ τ, dvs = [.raw (.ref τ)] ∧ o = tapeOb K τ ∧ ∀ s, TextOk s 50 → R (.d (.str s)) (tapeOb K τ)
def S__law_char (K : PySem.W.Frag) : DS := fun dvs o R X => ∃ τ, dvs = [.raw (.ref τ)] ∧ o = tapeOb K τ ∧ ∀ s, TextOk s 1 → R (.d (.str s)) (tapeOb K τ)
def S__law_any_text (K : PySem.W.Frag) : DS := fun dvs o R X => ∃ τ n, dvs = [.raw (.ref τ), .d (.int n)] ∧ o = tapeOb K τ ∧ 0 ≤ n ∧ n ≤ 1000 ∧ ∀ s, TextOk s (50 * n.toNat) → R (.d (.str s)) (tapeOb K τ)
theorem TextOk.empty {n : Nat} : TextOk ⟨#[]⟩ n := ⟨Nat.zero_le _, fun c h => by simp at h⟩
theorem TextOk.mono {s : Str} {m n : Nat} (h : TextOk s m) (l : m ≤ n) : TextOk s n := ⟨Nat.le_trans h.len l, h.ok⟩
open TL
theorem len_tl (s : Str) : s.length = (tl s).length := by
  show s.cps.size = s.cps.toList.length
  rw [Array.length_toList]
theorem str_ext {a b : Str} (h : tl a = tl b) : a = b := by
  cases a with
  | mk x => cases b with
    | mk y =>
      have : x = y := by
        apply Array.ext'
        exact h
      rw [this]
theorem str_eq_iff {a b : Str} : a = b ↔ tl a = tl b := ⟨fun h => by rw [h], str_ext⟩
theorem cutD_from {xs : List PyData} (k : Nat) : DL.cutD xs (some (k : Int)) none = xs.drop k := by
  unfold DL.cutD
  rw [HT.sIx_nat, HT.sIx_none]
  by_cases h : k ≤ xs.length
  · rw [Nat.min_eq_left h, List.take_of_length_le (by rw [List.length_drop]; exact Nat.le_refl _)]
  · rw [Nat.min_eq_right (by omega), List.drop_length, List.drop_of_length_le (by omega)]
    simp
theorem cutD_to {xs : List PyData} (k : Nat) : DL.cutD xs none (some (k : Int)) = xs.take k := by
  unfold DL.cutD
  rw [HT.sIx_nat, HT.sIx_none, List.drop_zero, Nat.sub_zero]
  by_cases h : k ≤ xs.length
  · rw [Nat.min_eq_left h]
  · rw [Nat.min_eq_right (by omega), List.take_length, List.take_of_length_le (by omega)]
abbrev nI (n : Nat) : PyData := .int (n : Int)
theorem map_get {α β : Type} {f : α → β} {l : List α} {k : Nat} {d : β} (h : (l.map f)[k]? = some d) : ∃ x, l[k]? = some x ∧ d = f x := by
  rw [List.getElem?_map] at h
  cases q : l[k]? with
  | none => rw [q] at h; cases h
  | some x => rw [q] at h; exact ⟨x, rfl, (Option.some.inj h).symm⟩
theorem take_snoc {α : Type} {l : List α} {k : Nat} {x : α} (h : l[k]? = some x) : l.take (k + 1) = l.take k ++ [x] := by
  rw [List.take_add_one, h]; rfl
theorem joinL_nil : ∀ l : List (List Nat), joinL [] l = l.flatten
  | [] => rfl
  | [x] => by show x = x ++ []; rw [List.append_nil]
  | p :: q :: r => by
    show p ++ ([] ++ joinL [] (q :: r)) = p ++ (q :: r).flatten
    rw [List.nil_append, joinL_nil (q :: r)]
theorem join_tl (y : Str) (parts : List Str) : tl (Txt.join y parts) = joinL (tl y) (parts.map tl) := by rw [join_eq, tl_join]
theorem joinE_tl (ys : List Str) : tl (Txt.join "" ys) = (ys.map tl).flatten := by
  rw [join_tl]
  have : tl ("" : Str) = [] := by decide +kernel
  rw [this, joinL_nil]
theorem flat_ok {m : Nat} : ∀ {ys : List Str}, (∀ s ∈ ys, TextOk s m) → (ys.map tl).flatten.length ≤ m * ys.length ∧ (∀ c ∈ (ys.map tl).flatten, okc c) ∧ (ys.map (·.length)).sum ≤ m * ys.length
  | [], _ => ⟨Nat.le_refl _, fun c h => by simp at h, Nat.le_refl _⟩
  | s :: ys, h => by
    obtain ⟨h1, h2, h3⟩ := flat_ok fun z hz => h z (List.mem_cons_of_mem _ hz)
    have hs := h s List.mem_cons_self
    have hl := hs.len
    rw [len_tl] at hl
    rw [List.map_cons, List.flatten_cons, List.length_append, List.length_cons, List.map_cons, List.sum_cons, Nat.mul_succ, len_tl]
    refine ⟨by omega, fun c hc => ?_, by omega⟩
    rcases List.mem_append.mp hc with z | z
    · exact hs.ok c z
    · exact h2 c z
theorem TextOk.join {m k : Nat} {ys : List Str} (h : ∀ s ∈ ys, TextOk s m) (hk : ys.length ≤ k) : TextOk (Txt.join "" ys) (m * k) := by
  obtain ⟨h1, h2, _⟩ := flat_ok h
  refine ⟨?_, ?_⟩
  · rw [len_tl, joinE_tl]; exact Nat.le_trans h1 (Nat.mul_le_mul_left m hk)
  · rw [show (Txt.join "" ys).cps.toList = tl (Txt.join "" ys) from rfl, joinE_tl]; exact h2
theorem join_room {m k : Nat} {ys : List Str} (h : ∀ s ∈ ys, TextOk s m) (hk : ys.length ≤ k) (hm : m * k ≤ 16777216) : (ys.map (·.length)).sum + ys.length * ("" : Str).length ≤ 16777216 := by
  obtain ⟨_, _, h3⟩ := flat_ok h
  have e : ("" : Str).length = 0 := by decide +kernel
  rw [e, Nat.mul_zero, Nat.add_zero]
  exact Nat.le_trans h3 (Nat.le_trans (Nat.mul_le_mul_left m hk) hm)
/-- a written text is such a text -/
theorem textOk_of {s : Str} {n : Nat} (h : (decide (s.length ≤ n) && s.cps.toList.all (fun c => decide (okc c))) = true) : TextOk s n := by
  rw [Bool.and_eq_true] at h
  exact ⟨of_decide_eq_true h.1, fun c hc => of_decide_eq_true (List.all_eq_true.mp h.2 c hc)⟩
end DL

set_option Elab.async false
set_option linter.all false
set_option maxRecDepth 100000
namespace DL
open PySem PySem.Spec PyProof.Rows L2
/-! ### str.replace of written texts: a token must be out -/
section
variable {X : Cx} {pos : Pos}
theorem PSsT.nox {st : List Stmt} {t : TS} (h : PSsT X.nox st t) : PSsT X st t := fun pins s σ H D h0 I hw =>
  wpAny_mono (h pins s σ H D h0 (I.wish _) hw) (fun _ _ q => q.unwish) fun _ _ z => False.elim z
theorem PET.of {e : Expr} {t : TE} (h : PE X e t) : PET X e t := fun pins s σ H Q _ I q => h.run pins s σ H Q I q
theorem pst_if {c : Expr} {a b : List Stmt} {tc : TT} {t u : TS} (hc : PT X c tc) (ha : PSsT X a t) (hb : PSsT X b u) : PST X (.If c a b pos) (tIfS tc t u) := fun pins s σ H D h0 I h => by
  refine wpAny_If (wpAny_mono (PySem.wpAny_toks (hc.run pins s σ H _ I h)) (fun d s1 q => ?_) fun _ _ x => x.2)
  obtain ⟨hk, H1, I1, q1⟩ := q
  cases d with
  | true => exact ha pins s1 σ H1 D (Nat.le_trans h0 hk) I1 q1
  | false => exact hb pins s1 σ H1 D (Nat.le_trans h0 hk) I1 q1
theorem pst_set {i : Nat} {x : Str} {e : Expr} {te : TE} {pos' : Pos} (hN : X.N.Nodup) (hi : X.N[i]? = some x) (hx : Loc X.env.scope x) (he : PET X e te) (hs : swapsWith e (some (.Name x pos')) pos.line X.env = pure false := by rfl) (hf : X.fn x = true ∨ X.env.scope.names.lookup x = some .local := by first | exact .inl rfl | exact .inr rfl | assumption) :
    PST X (.Assign [.Name x pos'] e pos) (tAsg te (gName i)) := fun pins s σ H D h0 I h => by
  refine wpAny_Assign_Name (thn (he pins s σ H _ h0 I h) fun v s1 ⟨y, H1, I1, r1, q1⟩ => ?_) hs
  exact store_ok I1 hN hi hx r1 (fun s2 I2 => ⟨_, H1, I2, q1⟩) hf
theorem pst_ret {e : Expr} {te : TE} (he : PET X e te) : PST X (.Return (some e) pos) (tRet te) := fun pins s σ H D h0 I h =>
  wpAny_Return_some (thn (he pins s σ H _ h0 I h) fun v s1 ⟨x, H1, I1, r1, q1⟩ => ⟨x, σ, H1, I1, r1, q1⟩)
theorem psst_nil : PSsT X [] tNext := PSsT.of pss_nil
theorem psst_one {st : Stmt} {t : TS} (h : PST X st t) : PSsT X [st] t := fun pins s σ H D h0 I hw => by
  refine wpAny_execs_cons (thn (h pins s σ H D h0 I hw) fun f s1 q => ?_)
  cases f with
  | next => exact wpAny_execs_nil q
  | ret v => exact q
  | brk => exact q
  | cont => exact q
def tRepC (y z : Str) (to : TE) : TE := fun σ H Q => to σ H fun x H1 => ∃ a, x = .str a ∧ a.length + (a.length + 1) * z.length ≤ 16777216 ∧ Q (.str (Txt.replace a y z)) H1
theorem pet_repC {o : Expr} {to : TE} {y z : Str} {j0 j1 : Nat} {c0 c1 apos : Pos} (ho : PET X o to) (hyz : (y == z) = false)
    (hst : starEach [.Constant (.str y) j0 c0, .Constant (.str z) j1 c1] X.env = [(false, eval (.Constant (.str y) j0 c0) X.env), (false, eval (.Constant (.str z) j1 c1) X.env)] := by rfl)
    (hbase : attributeBase o "replace" X.env (eval o X.env) = eval o X.env := by rfl) (hline : (apos.endLine == pos.line) = true := by rfl) :
    PET X (.Call (.Attribute o "replace" apos) [.Constant (.str y) j0 c0, .Constant (.str z) j1 c1] [] pos) (tRepC y z to) := fun pins s σ H Q h0 I h => by
  refine PySem.Call_method2 hbase hst hline (wpAny_mono (PySem.wpAny_toks (ho pins s σ H _ h0 I h)) (fun v s1 q => ?_) fun _ _ x => x.2)
  obtain ⟨hk, x, H1, I1, r1, a, rfl, hb, q⟩ := q
  obtain ⟨tx, rfl⟩ := r1
  have h1 : 1 ≤ s1.toks := Nat.le_trans h0 hk
  refine ⟨"str", _, F.plainAttrs_str, F.slot_str_replace, F.type_str_replace, typeIs_str _ _ _, (fun _ e => nomatch e), Calls.callWith_builtin rfl (Calls.evalArgs_plain (Calls.spliced_cons ?_))⟩
  refine Calls.Constant_str (Calls.spliced_cons (Calls.Constant_str (Calls.spliced_nil ?_)))
  exact PySem.SC.replace (show s1.toks ≠ 0 by omega) (show s1.toks + 1 ≠ 0 by omega) (show s1.toks ≠ s1.toks + 1 by omega) hyz hb fun t' k => ⟨.str (Txt.replace a y z), H1, I1.tok k, ⟨t', rfl⟩, q⟩
end
section
variable {K : Kx} {ρ : List Sl} {o : Ob} {R : RD} {te : TE}
theorem xe_repC {y z : Str} (h : DL.XE K te ρ o fun dv ρ1 o1 => ∃ a, dv = .d (.str a) ∧ a.length + (a.length + 1) * z.length ≤ 16777216 ∧ R (.d (.str (Txt.replace a y z))) ρ1 o1) : DL.XE K (tRepC y z te) ρ o R := fun G σ H e Q q =>
  h.seq e fun x a ρ1 o1 G1 H1 ⟨s, hd, hl, r⟩ s1 e1 ok1 fr1 => by
    subst hd
    exact ⟨s, vok_str ok1, hl, q _ _ _ _ _ _ r s1 e1 (.str _) trivial⟩
end
section
variable {P : Program} {w : World} {K : PySem.W.Frag} {mg : Str → Option Value} {base : Heap}
/-- THE RULE for a def without cells, one parameter at least, a token out -/
theorem fnDT {x qual : Str} {st : Stmt} {f : Addr} {fd : FuncData} {N ps : List Str} {k : Nat} {S : DS} (F : Fun K x qual st f fd) (Sc : FnScope N ps (defScope st))
    (hnc : ∀ y ∈ (defScope st).names, y.2 ≠ .cell) (hps : 1 ≤ ps.length)
    (len : ∀ dvs o R X, S dvs o R X → dvs.length = ps.length)
    (hb : ∀ (cdv : Value) (A : Around) (outer : List Env) (s : Shared) (H : Hp) (E : XK), Room k (A.deeper (envOfC qual (defScope st) s.heap.objs.size f cdv)) →
      ∃ t, PSsT (cxOf CX0 P w K mg base N qual (defScope st) f cdv A outer s H E).nox (defBody st) t ∧ ∀ dvs o R X, S dvs o R X → XS (KN K) t (startD N.length dvs) o (fun _ o' => R (.d .none) o') (OutR R) (fun _ _ => False) (fun _ _ => False)) :
    FnOk P w K mg base CX0 (k + 1) f fd ps (spD K S) := by
  obtain ⟨oc, od, kV, doc, pm, an, cdv, ct, osl, rfl, lk, hcd⟩ := F.ex
  refine fn_ofT lk hcd Sc hnc hps (fun vs H Q E ⟨G, o, dvs, R, X, _, a, h, _⟩ => by rw [a.len]; exact len dvs o R X h) fun A outer s H vs Q E hr ⟨G, o, dvs, R, X, wd, a, h, q, _⟩ => ?_
  obtain ⟨t, ht, hx⟩ := hb cdv A outer s H E hr
  exact ⟨t, PSsT.nox ht, out_run (K := KN K) wd a q wo_none (hx dvs o R X h)⟩
end
/-! ### truth -/
def tTru (K : PySem.W.Frag) (te : TE) : TT := fun σ H Q => te σ H fun x H' => ∃ k, TruV K x H' k ∧ Q k H'
theorem pt_truK {X : Cx} {K : PySem.W.Frag} {a : Expr} {ta : TE} (h : X.K = K) (ha : PE X a ta) (he : ∀ whole, isTrue a X.env whole = (do let v ← whole; standAt a.pos; holding [v] (truthy v))) : PT X a (tTru K ta) := by
  subst h
  exact pt_truth ha he
def TruD : DV → Bool → Prop
  | .d .none, b => b = false
  | .d (.bool k), b => b = k
  | .d (.int i), b => b = (i != 0)
  | .d (.str z), b => z.length ≤ sizeLine ∧ b = ((z.length : Int) != 0)
  | .d (.list l), b => b = !l.isEmpty
  | .d (.tuple l), b => b = !l.isEmpty
  | .sl _ (.lst l), b => b = !l.isEmpty
  | .new (.lst l), b => b = !l.isEmpty
  | _, _ => False
theorem RpAll.emp {K : PySem.W.Frag} {G : Hp} {xs : List V} {ds : List PyData} (h : RpAll K G xs ds) : xs.isEmpty = ds.isEmpty := by cases h <;> rfl
section
variable {K : Kx} {ρ : List Sl} {o : Ob} {R : RD} {te : TE} {i : Nat} {R' : Bool → RE}
theorem TruD.ok {dv : DV} {b : Bool} (h : TruD dv b) {G : Hp} {σ : L2.St} {H : Hp} {x : V} (e : En K o ρ G σ H) (ok : VOk K o ρ G σ H x dv) : TruV K x H b := by
  have lst : ∀ {dv : DV} {l : List PyData}, IsL ρ dv l → VOk K o ρ G σ H x dv → b = (!l.isEmpty) → TruV K x H b := fun {dv l} il ok hb => by
    obtain ⟨p, xs, rfl, hp, hr⟩ := il.at e ok
    exact .inl ⟨xs, .inl (.inl hp), by rw [hr.emp]; exact hb⟩
  cases dv with
  | d z =>
    cases z with
    | none => cases vok_non ok; exact h
    | bool k => cases vok_bl ok; exact h
    | int k => cases vok_int ok; exact h
    | str k => cases vok_str ok; exact h
    | list l => exact lst (dv := .d (.list l)) rfl ok h
    | tuple l =>
      cases ok with
      | tup h1 h2 => exact .inr (.inl ⟨_, SqT.sub e.wd.sub h1, by rw [h2.emp]; exact h⟩)
    | dict _ => exact h.elim
  | raw _ => exact h.elim
  | sl j c => cases c with
    | lst l => exact lst (dv := .sl j (.lst l)) rfl ok h
    | dic _ => exact h.elim
  | new c => cases c with
    | lst l => exact lst (dv := .new (.lst l)) rfl ok h
    | dic _ => exact h.elim
theorem xt_tru (h : DL.XE K te ρ o fun dv ρ1 o1 => ∃ b, TruD dv b ∧ R' b ρ1 o1) : XT K (tTru K te) ρ o R' := fun G σ H e Q q =>
  h.seq e fun x dv ρ1 o1 G1 H1 ⟨b, ht, r⟩ s1 e1 ok1 fr1 => ⟨b, ht.ok e1 ok1, q _ _ _ _ _ r s1 e1⟩
theorem tru_b {k : Bool} : TruD (.d (.bool k)) k := rfl
theorem tru_n : TruD (.d .none) false := rfl
theorem tru_l {l : List PyData} : TruD (.d (.list l)) (!l.isEmpty) := rfl
theorem tru_t {l : List PyData} : TruD (.d (.tuple l)) (!l.isEmpty) := rfl
theorem tru_s {l : List PyData} : TruD (.sl i (.lst l)) (!l.isEmpty) := rfl
/-- a name whose thing is owned and no list: it waits for a word -/
def XEV (K : Kx) (i : Nat) (ρ : List Sl) (o : Ob) (R : RD) : Prop := XEF K (tVar i) ρ o R
theorem xf_stuck {i : Nat} {ρ : List Sl} {o : Ob} {R : RD} (h : XEV K i ρ o R) : XEF K (tVar i) ρ o R := h
/-- the tape, first handed on -/
theorem xf_tape {ns : List Int} {a l s t : Int} (hi : ρ[i]? = some (.own (.dic (tapeKvs ns a l s t)))) (inv : TInv ns a l s t) (r : ∀ τ, R (.raw (.ref τ)) (ρ.set i (.raw (.ref τ))) (tapeOb K τ)) : XEV K i ρ o R := fun G σ H e Q q => by
  obtain ⟨p, y, h1, h2, h3, ok, nf⟩ := e.own_at hi
  obtain ⟨kvs, rfl, kv⟩ := dic_rep ok
  have hl : i < ρ.length := (List.getElem?_eq_some_iff.mp hi).1
  have own : Own ρ σ p := ⟨i, ⟨_, hi⟩, h1⟩
  have back : ∀ j q, OwnAt (ρ.set i (.raw (.ref p))) σ j q → OwnAt ρ σ j q ∧ j ≠ i := fun j q ⟨⟨c, hc⟩, hs⟩ => by
    by_cases hj : j = i
    · subst hj; rw [List.getElem?_set_self hl] at hc; cases hc
    · rw [List.getElem?_set_ne (Ne.symm hj)] at hc; exact ⟨⟨⟨c, hc⟩, hs⟩, hj⟩
  have s0 : Stp ρ σ o G H (ρ.set i (.raw (.ref p))) σ (tapeOb K p) G H := ⟨Sub.refl, fun _ _ h _ _ => h, fun _ h _ _ _ => h, fun a ha => .inr (.inr (by have : a = p := ha; rw [this]; exact own)), fun a ⟨j, hq⟩ => .inl ⟨j, (back j a hq).1⟩⟩
  have e2 : En K (tapeOb K p) (ρ.set i (.raw (.ref p))) G σ H := by
    refine ⟨⟨⟨e.wd.sub, fun a ha => ?_, fun a ha => ?_, ⟨ns, _, _, _, _, inv, kvs, h3, kv⟩⟩, by simpa using e.len, fun j s' hj => ?_, fun j k q a b => e.dis j k q (back j q a).1 (back k q b).1, fun q ⟨j, hq⟩ z => ?_⟩, e.wo.step s0⟩
    · have : a = p := ha
      rw [this]; exact h2
    · have : a = p := ha
      rw [this]; exact ⟨_, h3⟩
    · by_cases hji : j = i
      · subst hji
        rw [List.getElem?_set_self hl] at hj
        cases hj
        exact ⟨_, h1, rfl⟩
      · rw [List.getElem?_set_ne (Ne.symm hji)] at hj
        exact e.sl j s' hj
    · have : q = p := z
      subst this
      exact (back j q hq).2 (e.dis j i q (back j q hq).1 ⟨⟨_, hi⟩, h1⟩)
  exact ⟨_, h1, q _ _ _ _ _ _ (r p) s0 e2 rfl trivial⟩
end
/-- a statement that the walk does not look into -/
def Hold (p : Prop) : Prop := p
theorem hold {p : Prop} (h : p) : Hold p := h
theorem opt_beq {c d : Nat} : (some c == some d) = decide (c = d) := by
  by_cases h : c = d
  · subst h; simp
  · simp [h]
theorem sgn_eq {c d : Nat} {s : Str} (hs : TL.tl s = [d]) : ((⟨#[c]⟩ : Str) = s) ↔ c = d := by
  rw [str_eq_iff, hs]
  show [c] = [d] ↔ c = d
  simp
theorem sgn_dec {c d : Nat} {s : Str} (hs : TL.tl s = [d]) : decide ((⟨#[c]⟩ : Str) = s) = decide (c = d) := by
  rw [decide_eq_decide]; exact sgn_eq hs
/-! ### the law's own start -/
def S_law (K : PySem.W.Frag) : DS := fun dvs o R X => ∃ a ns, dvs = [.raw (.ref a)] ∧ o = scriptOb K a ns ∧ ns.length ≤ 63 ∧ ∀ o', R (.d (.bool true)) o'
theorem law_start {K : PySem.W.Frag} {H : Hp} {a : Addr} {ns : List Int} (hl : ns.length ≤ 63) (hS : SqL K H a (ns.map V.int)) : spD K (S_law K) [.ref a] H (fun v _ => v = .bl true) fun _ _ _ => False :=
  ⟨H, scriptOb K a ns, [.raw (.ref a)], fun dv _ => dv = .d (.bool true), fun _ _ => False, ⟨Sub.refl, fun _ h => h.elim, fun _ h => h.elim, hS⟩, .cons rfl .nil, ⟨a, ns, rfl, rfl, hl, fun _ => rfl⟩,
    fun v dv o' G' H' hd _ _ ok _ => by subst hd; exact vok_bl ok, fun _ _ _ _ _ _ h => h.elim⟩
end DL

set_option Elab.async false
set_option linter.all false
set_option maxRecDepth 100000
namespace DL
open PySem PySem.Spec PyProof.Rows L2 TL
/-! ### pieces of texts -/
theorem tl_cut (z : Str) (lo hi : Option Int) : tl (cutS z lo hi) = ((tl z).drop (HT.sIx z.length 0 lo)).take (HT.sIx z.length z.length hi - HT.sIx z.length 0 lo) := by
  show (cutS z lo hi).cps.toList = _
  unfold cutS
  rw [List.toList_toArray]
theorem tl_cutTo (z : Str) (n : Nat) : tl (cutS z none (some (n : Int))) = (tl z).take n := by
  rw [tl_cut, HT.sIx_nat, HT.sIx_none, List.drop_zero, Nat.sub_zero]
  by_cases h : n ≤ z.length
  · rw [Nat.min_eq_left h]
  · rw [Nat.min_eq_right (by omega), List.take_of_length_le (by rw [← len_tl]; exact Nat.le.refl), List.take_of_length_le (by rw [← len_tl]; omega)]
theorem tl_cutFrom (z : Str) (n : Nat) : tl (cutS z (some (n : Int)) none) = (tl z).drop n := by
  rw [tl_cut, HT.sIx_nat, HT.sIx_none]
  by_cases h : n ≤ z.length
  · rw [Nat.min_eq_left h, List.take_of_length_le (by rw [List.length_drop, ← len_tl]; exact Nat.le_refl _)]
  · rw [Nat.min_eq_right (by omega), List.drop_of_length_le (by rw [← len_tl]; exact Nat.le_refl _), List.drop_of_length_le (by rw [← len_tl]; omega)]
    simp
theorem tl_cutN (z : Str) (m n : Nat) : tl (cutS z (some (m : Int)) (some (n : Int))) = ((tl z).take n).drop m := by
  rw [tl_cut, HT.sIx_nat, HT.sIx_nat, List.drop_take]
  have e : (tl z).length = z.length := (len_tl z).symm
  by_cases h : m ≤ z.length
  · rw [Nat.min_eq_left h]
    by_cases k : n ≤ z.length
    · rw [Nat.min_eq_left k]
    · rw [Nat.min_eq_right (by omega), List.take_of_length_le (by rw [List.length_drop, e]; exact Nat.le_refl _), List.take_of_length_le (by rw [List.length_drop, e]; omega)]
  · rw [Nat.min_eq_right (Nat.le_of_lt (Nat.lt_of_not_le h)), List.drop_of_length_le (by rw [e]; exact Nat.le_refl _), List.drop_of_length_le (by rw [e]; omega)]
    simp
theorem cut_len (z : Str) (lo hi : Option Int) : (cutS z lo hi).length ≤ z.length := by
  rw [len_tl, tl_cut, List.length_take, List.length_drop, len_tl z]
  omega
/-- the last item -/
theorem atI_last {α : Type} {xs : List α} {v : α} : atI (xs ++ [v]) (-1) = some v := by
  unfold atI ixN
  rw [List.length_append, List.length_singleton, if_neg (by decide), if_pos (by omega)]
  show (xs ++ [v])[((-1 : Int) + ((xs.length + 1 : Nat) : Int)).toNat]? = _
  have : ((-1 : Int) + ((xs.length + 1 : Nat) : Int)).toNat = xs.length := by omega
  rw [this, List.getElem?_append_right (Nat.le_refl _), Nat.sub_self]
  rfl
theorem min_int (a b : Nat) : (if (b : Int) < (a : Int) then (b : Int) else (a : Int)) = ((min a b : Nat) : Int) := by
  split <;> omega
theorem max_int (a b : Nat) : (if (b : Int) > (a : Int) then (b : Int) else (a : Int)) = ((max a b : Nat) : Int) := by
  split <;> omega
theorem le_sum_mem {x : Nat} : ∀ {l : List Nat}, x ∈ l → x ≤ l.sum
  | y :: l, h => by
    rw [List.sum_cons]
    rcases List.mem_cons.mp h with e | e
    · omega
    · have := le_sum_mem e; omega
theorem sum_succ {α : Type} (f : α → Nat) : ∀ l : List α, (l.map fun z => f z + 1).sum = (l.map f).sum + l.length
  | [] => rfl
  | n :: l => by
    rw [List.map_cons, List.sum_cons, List.map_cons, List.sum_cons, sum_succ f l, List.length_cons]
    omega
theorem sum_cast : ∀ l : List Nat, (l.map fun n : Nat => (n : Int)).sum = ((l.sum : Nat) : Int)
  | [] => rfl
  | n :: l => by
    rw [List.map_cons, List.sum_cons, List.sum_cons, sum_cast l]
    omega
section
variable {K : Kx} {ρ : List Sl} {o : Ob} {R : RD}
theorem bs_ifI {x y : Int} {p : Prop} [Decidable p] (h : R (.d (.int (if p then x else y))) ρ o) : (decide p = true → DL.XE K (tC (.int x)) ρ o R) ∧ (decide p = false → DL.XE K (tC (.int y)) ρ o R) :=
  ⟨fun z => xe_int (by rw [if_pos (of_decide_eq_true z)] at h; exact h), fun z => xe_int (by rw [if_neg (of_decide_eq_false z)] at h; exact h)⟩
theorem isl_n {ds : List PyData} : IsL ρ (.new (.lst ds)) ds := rfl
theorem isl_o {i : Nat} {ds : List PyData} : IsL ρ (.sl i (.lst ds)) ds := rfl
theorem isl_d {ds : List PyData} : IsL ρ (.d (.list ds)) ds := rfl
theorem xc_sumN {d : DV} {ns : List Nat} (l : IsL ρ d (ns.map nI)) (r : R (.d (.int (ns.sum : Nat))) ρ o) : XC K (rSum K) [d] ρ o R :=
  xc_sum (ns := ns.map fun n : Nat => (n : Int)) (by rw [List.map_map]; exact l) (by rw [sum_cast]; exact r)
end
/-! ### a tuple of texts of the module -/
theorem rp_all_strs {K : PySem.W.Frag} {G : Hp} : ∀ ws : List Str, RpAll K G (ws.map V.str) (ws.map .str)
  | [] => .nil
  | w :: ws => .cons (.str w) (rp_all_strs ws)
theorem rp_strs {K : PySem.W.Frag} {f : Addr} {ob : Obj} {its : Array Value} {n : Nat} {ws : List Str} (h : K.lookup f = some ob) (hc : ob.cls = .type "tuple") (hd : ob.data = .seq its n) (hv : Vals (ws.map V.str) its.toList) (hs : Nat.ble ws.length 1000 = true := by rfl) : ∀ G, Rp K G (.ref f) (.tuple (ws.map .str)) := fun G => by
  refine .tup (.inr ⟨ob, its, n, h, hc, hd, ?_, hv⟩) (rp_all_strs ws)
  have := hv.length
  rw [List.length_map] at this
  have e : its.toList.length = its.size := by simp
  have := Nat.ble_eq.mp hs
  rw [sizeLine_eq]
  omega
theorem inV_strs {s : Str} : ∀ {ws : List Str}, inV (.str s) (ws.map V.str) = decide (s ∈ ws)
  | [] => rfl
  | w :: ws => by
    have ih := inV_strs (s := s) (ws := ws)
    unfold inV at ih ⊢
    rw [List.map_cons, List.any_cons, ih]
    show ((w == s) || _) = _
    by_cases h : w = s
    · subst h; simp
    · have : ¬ s = w := fun e => h e.symm
      simp [h, this]
theorem flat_strs : ∀ ws : List Str, (ws.map V.str).all flatV = true
  | [] => rfl
  | w :: ws => by rw [List.map_cons, List.all_cons, flat_strs ws]; rfl
section
variable {K : Kx} {ρ : List Sl} {o : Ob} {R : RD}
theorem xe_conR {a : Addr} {d : PyData} (h : ∀ G, Rp K G (.ref a) d) (r : R (.d d) ρ o) : DL.XE K (tC (.ref a)) ρ o R := xe_con h r
theorem xr_inTs {s : Str} {ws : List Str} (r : R (.d (.bool (decide (s ∈ ws)))) ρ o) : XR K (rInU K) (.d (.str s)) (.d (.tuple (ws.map .str))) ρ o R := xr_or2 (xr_or1 fun G σ H x y e h1 h2 Q q => by
  cases vok_str h1
  cases h2 with
  | @tup a xs _ hs ok =>
  cases ok.of_strs
  exact ⟨a, _, rfl, .inr (SqT.sub e.wd.sub hs), rfl, flat_strs ws, by rw [inV_strs]; exact xq_now q e r (.bl _)⟩)
theorem xr_inLs {s : Str} {dv : DV} {ws : List Str} (l : IsL ρ dv (ws.map .str)) (r : R (.d (.bool (decide (s ∈ ws)))) ρ o) : XR K (rInU K) (.d (.str s)) dv ρ o R := xr_or2 (xr_or1 fun G σ H x y e h1 h2 Q q => by
  cases vok_str h1
  obtain ⟨p, xs, rfl, hp, ok⟩ := l.at e h2
  cases ok.of_strs
  exact ⟨p, _, rfl, .inl (.inl (.inl hp)), rfl, flat_strs ws, by rw [inV_strs]; exact xq_now q e r (.bl _)⟩)
end
/-! ### data that == may look at -/
structure Shp (n : Nat) (d : PyData) : Prop where
  l : PyData.canLay0 d = true
  d : PyData.depth d ≤ n
theorem Shp.shaped {n : Nat} {d : PyData} (h : Shp n d) (hn : n ≤ 64 := by decide) : SeqAt.shaped d = true := by
  unfold SeqAt.shaped
  rw [h.l, decide_eq_true (Nat.le_trans h.d hn)]; rfl
theorem shp_int {n : Nat} {i : Int} : Shp n (.int i) := ⟨rfl, Nat.zero_le _⟩
theorem shp_all {n : Nat} : ∀ {ds : List PyData}, (∀ d ∈ ds, Shp n d) → PyData.canLayAll0 ds = true ∧ PyData.depthAll ds ≤ n
  | [], _ => ⟨rfl, Nat.zero_le _⟩
  | d :: ds, h => by
    obtain ⟨h1, h2⟩ := shp_all (ds := ds) fun x hx => h x (List.mem_cons_of_mem _ hx)
    have h0 := h d (List.mem_cons_self ..)
    refine ⟨by show (PyData.canLay0 d && _) = true; rw [h0.l, h1]; rfl, ?_⟩
    show max (PyData.depth d) (PyData.depthAll ds) ≤ n
    have := h0.d
    omega
theorem shp_tup {n : Nat} {ds : List PyData} (h : ∀ d ∈ ds, Shp n d) : Shp (n + 1) (.tuple ds) := ⟨(shp_all h).1, Nat.succ_le_succ (shp_all h).2⟩
theorem shp_lst {n : Nat} {ds : List PyData} (h : ∀ d ∈ ds, Shp n d) : Shp (n + 1) (.list ds) := ⟨(shp_all h).1, Nat.succ_le_succ (shp_all h).2⟩
end DL

set_option Elab.async false
set_option linter.all false
set_option maxRecDepth 100000
namespace DL
open PySem PySem.Spec PyProof.Rows L2 TL
/-! ### a op b op c op d, as a test -/
def tChain3 (r r' r'' : R2) (ta tb tc td : TE) : TE := fun σ H Q => ta σ H fun x H1 => tb σ H1 fun y H2 => r x y H2 fun z H3 => ∃ k, z = .bl k ∧
  (if k = true then tc σ H3 fun u H4 => r' y u H4 fun z2 H5 => ∃ k2, z2 = .bl k2 ∧ (if k2 = true then td σ H5 fun w H6 => r'' u w H6 Q else Q (.bl false) H5) else Q (.bl false) H3)
section
variable {X : Cx} {pos : Pos} {a b c d : Expr} {ta tb tc td : TE}
theorem pt_chain3 {op op' op'' : CmpOp} {r r' r'' : R2} (ho : OpR X (compareOp op) r) (ho' : OpR X (compareOp op') r') (ho'' : OpR X (compareOp op'') r'') (ha : PE X a ta) (hb : PE X b tb) (hc : PE X c tc) (hd : PE X d td)
    (hm : lastMarks [op, op', op''] [b, c, d] = false := by with_unfolding_all rfl) : PT X (.Compare a [op, op', op''] [b, c, d] pos) (tTest (tChain3 r r' r'' ta tb tc td)) := by
  refine ⟨fun pins s σ H Q I h => ?_⟩
  refine isTrue_chain (thn (ha.run pins s σ H _ I h) fun v s1 ⟨x, H1, I1, r1, q1⟩ => test_link (thn (hb.run pins s1 σ H1 _ I1 q1) fun u s2 ⟨y, H2, I2, r2, q2⟩ =>
    thn (ho pins s2 σ H2 x y v u _ I2 r1 r2 q2) fun d s3 ⟨z, H3, I3, r3, k, e, q3⟩ => ?_)) hm
  subst e
  cases r3
  refine wpAny_truthy_bool ?_
  cases k with
  | false =>
    obtain ⟨k', e', q'⟩ := q3
    cases e'
    exact ite_ff ⟨H3, I3, q'⟩
  | true =>
    refine ite_tt (test_link (thn (hc.run pins s3 σ H3 _ I3 q3) fun w' s4 ⟨z', H4, I4, r4, q4⟩ => thn (ho' pins s4 σ H4 y z' u w' _ I4 r2 r4 q4) fun d' s5 ⟨z2, H5, I5, r5, k2, e2, q5⟩ => ?_))
    subst e2
    cases r5
    refine wpAny_truthy_bool ?_
    cases k2 with
    | false =>
      obtain ⟨k', e', q'⟩ := q5
      cases e'
      exact ite_ff ⟨H5, I5, q'⟩
    | true =>
      refine ite_tt (test_last (thn (hd.run pins s5 σ H5 _ I5 q5) fun w2 s6 ⟨z3, H6, I6, r6, q6⟩ => thn (ho'' pins s6 σ H6 z' z3 w' w2 _ I6 r4 r6 q6) fun d2 s7 ⟨z4, H7, I7, r7, k3, e3, q7⟩ => ?_))
      subst e3
      cases r7
      exact wpAny_truthy_bool ⟨H7, I7, q7⟩
end
section
variable {K : Kx} {ρ : List Sl} {o : Ob} {R : RD} {ta tb tc td : TE}
theorem xe_chain3 {r r' r'' : R2} (h : XE K ta ρ o fun a ρ1 o1 => XE K tb ρ1 o1 fun b ρ2 o2 => Kept ρ2 a ∧ XR K r a b ρ2 o2 fun c ρ3 o3 => ∃ k, c = .d (.bool k) ∧ (k = true → XE K tc ρ3 o3 fun d ρ4 o4 => Kept ρ4 b ∧ XR K r' b d ρ4 o4 fun c2 ρ5 o5 => ∃ k2, c2 = .d (.bool k2) ∧
      (k2 = true → XE K td ρ5 o5 fun f ρ6 o6 => Kept ρ6 d ∧ XR K r'' d f ρ6 o6 R) ∧ (k2 = false → R (.d (.bool false)) ρ5 o5) ∧ Kept ρ5 d) ∧ (k = false → R (.d (.bool false)) ρ3 o3) ∧ Kept ρ3 b) :
    XE K (tChain3 r r' r'' ta tb tc td) ρ o R := fun G σ H e Q q =>
  h.seq e fun x a ρ1 o1 G1 H1 r1 s1 e1 ok1 fr1 => XE.seq r1 e1 fun y b ρ2 o2 G2 H2 ⟨kp, r2⟩ s2 e2 ok2 fr2 =>
    r2 G2 σ H2 x y e2 (ok1.step s2 kp) ok2 _ fun z c ρ3 o3 G3 H3 ⟨k, hc, rt, rf, kb⟩ s3 e3 ok3 fr3 => by
      subst hc
      refine ⟨k, vok_bl ok3, ?_⟩
      have s123 := (s1.trans s2).trans s3
      cases k with
      | false => exact iteF (q _ _ _ _ _ _ (rf rfl) s123 e3 (.bl false) trivial)
      | true =>
        refine iteT ?_
        refine XE.seq (rt rfl) e3 fun u d ρ4 o4 G4 H4 ⟨kp4, r4⟩ s4 e4 ok4 fr4 => ?_
        refine r4 G4 σ H4 y u e4 ((ok2.step s3 kb).step s4 kp4) ok4 _ fun z2 c2 ρ5 o5 G5 H5 ⟨k2, hc2, rt2, rf2, kd⟩ s5 e5 ok5 fr5 => ?_
        subst hc2
        refine ⟨k2, vok_bl ok5, ?_⟩
        have s15 := (s123.trans s4).trans s5
        cases k2 with
        | false => exact iteF (q _ _ _ _ _ _ (rf2 rfl) s15 e5 (.bl false) trivial)
        | true =>
          refine iteT ?_
          refine XE.seq (rt2 rfl) e5 fun w f ρ6 o6 G6 H6 ⟨kp6, r6⟩ s6 e6 ok6 fr6 => ?_
          exact r6 G6 σ H6 u w e6 ((ok4.step s5 kd).step s6 kp6) ok6 Q fun v dv ρ7 o7 G7 H7 r s e ok fr => q _ _ _ _ _ _ r ((s15.trans s6).trans s) e ok (fr.back (s15.trans s6))
end
section
variable {K : Kx} {ρ : List Sl} {o : Ob} {N : RE}
theorem xgs_nilM (n : N ρ o) : XGs K gNil (([] : List PyData).map DV.d) ρ o N := xgs_nil n
end
/-! ### tests whose outcome is known -/
section
variable {A B C p : Prop} [Decidable p]
theorem bs_kt (h : p) (a : A) : (decide p = true → A) ∧ (decide p = false → B) := ⟨fun _ => a, fun z => absurd h (of_decide_eq_false z)⟩
theorem bs_kf (h : ¬ p) (b : B) : (decide p = true → A) ∧ (decide p = false → B) := ⟨fun z => absurd (of_decide_eq_true z) h, fun _ => b⟩
theorem bs_nkt (h : p) (b : B) : ((!decide p) = true → A) ∧ ((!decide p) = false → B) := ⟨fun z => absurd h (of_decide_eq_false (by simpa using z)), fun _ => b⟩
theorem bs_nkf (h : ¬ p) (a : A) : ((!decide p) = true → A) ∧ ((!decide p) = false → B) := ⟨fun _ => a, fun z => absurd (of_decide_eq_true (by simpa using z)) h⟩
theorem bs_kt3 (h : p) (c : C) (a : A) : (decide p = true → A) ∧ (decide p = false → B) ∧ C := ⟨fun _ => a, fun z => absurd h (of_decide_eq_false z), c⟩
theorem bs_kf3 (h : ¬ p) (c : C) (b : B) : (decide p = true → A) ∧ (decide p = false → B) ∧ C := ⟨fun z => absurd (of_decide_eq_true z) h, fun _ => b, c⟩
theorem bs_d3 (c : C) (a : p → A) (b : ¬ p → B) : (decide p = true → A) ∧ (decide p = false → B) ∧ C := ⟨fun z => a (of_decide_eq_true z), fun z => b (of_decide_eq_false z), c⟩
end
/-! ### a comprehension that changes nothing -/
section
variable {K : Kx} {ρ ρ1 : List Sl} {o o' : Ob} {R : RD} {te tl : TE} {tt : TT} {g : TG} {is : List Nat} {T : TA}
def LcOne (K : Kx) (tt : TT) (te : TE) (ρ1 : List Sl) (is : List Nat) (ds : List PyData) (o1 : Ob) (b : Bool) (d : PyData) : Prop :=
  XT K tt (blkE ρ1 is ds) o1 fun c ρ2 o2 => ρ2 = blkE ρ1 is ds ∧ o2 = o1 ∧ c = b ∧ (c = true → XEF K te (blkE ρ1 is ds) o1 fun dv ρ3 o3 => ρ3 = blkE ρ1 is ds ∧ o3 = o1 ∧ dv = .d d)
theorem xe_lcF {α : Type} (enc : α → PyData) (xs : List α) (p : α → Bool) (f : α → PyData) (h : XEF K tl ρ o fun dv ρ1 o1 => dv = .d (.list (xs.map enc)) ∧ NoOw ρ1 is ∧ xs.length < sizeLine ∧
      (∀ x ∈ xs, ∃ ds, BT K g is (enc x) ds ∧ LcOne K tt te ρ1 is ds o1 (p x) (f x)) ∧ R (.new (.lst ((xs.filter p).map f))) ρ1 o1) : XE K (tLc (iList K tl) g tt te is) ρ o R := by
  refine xe_lcL (XE.mono h fun dv ρ1 o1 ⟨hd, no, hl, one, r⟩ => ⟨xs.map enc, hd, no, fun k acc o' => o' = o1 ∧ acc = ((xs.take k).filter p).map f, ⟨rfl, rfl⟩, ?_, ?_⟩)
  · rintro k d acc o' hk hl2 ⟨rfl, rfl⟩
    obtain ⟨x, hx, rfl⟩ := map_get hk
    obtain ⟨ds, bt, t⟩ := one x (List.mem_of_getElem? hx)
    refine ⟨ds, bt, ?_⟩
    unfold LcTurn
    refine fun G σ H e Q q => t G σ H e Q fun b ρ2 o2 G2 H2 ⟨e1, e2, e3, r⟩ s e' => q b ρ2 o2 G2 H2 ?_ s e'
    subst e2
    refine ⟨e1, fun hb => XE.mono (r hb) fun dv ρ3 o3 ⟨f1, f2, f3⟩ => ⟨f1, _, f3, ?_⟩, fun hb => ?_⟩
    · have hlen : (((xs.take k).filter p).map f ++ [f x]).length ≤ xs.length := by
        have h1 := List.length_filter_le p (xs.take k)
        have h2 := (List.getElem?_eq_some_iff.mp hx).1
        rw [List.length_take] at h1
        rw [List.length_append, List.length_map, List.length_singleton]
        omega
      refine ⟨Nat.lt_of_le_of_lt hlen hl, f2, ?_⟩
      rw [take_snoc hx, List.filter_append, List.map_append, List.filter_cons_of_pos (by rw [← e3]; exact hb)]; rfl
    · refine ⟨rfl, ?_⟩
      rw [take_snoc hx, List.filter_append, List.map_append, List.filter_cons_of_neg (by rw [← e3, hb]; decide)]
      simp
  · rintro acc o' _ ⟨rfl, rfl⟩
    rw [List.length_map, List.take_length]
    exact r
end
/-! ### walks over a list or a tuple -/
def iSeq (K : PySem.W.Frag) (tl : TE) : TI := fun σ H R => iList K tl σ H R ∨ iTup K tl σ H R
theorem pi_seqK {X : Cx} {K : PySem.W.Frag} {tg e : Expr} {te : TE} (h : X.K = K) (he : PE X e te) : PI X tg e (iSeq K te) := by
  subst h
  refine ⟨fun pins s σ H R I q => ?_⟩
  rcases q with q | q
  · exact (pi_list he).run pins s σ H R I q
  · exact (pi_tup he).run pins s σ H R I q
section
variable {K : Kx} {ρ ρ1 : List Sl} {o o' : Ob} {R : RD} {N B C : RE} {te tl : TE} {tt : TT} {g : TG} {tb : TS} {is : List Nat}
theorem xs_seqL (h : XS K (tFor (iList K tl) g tb) ρ o N R B C) : XS K (tFor (iSeq K tl) g tb) ρ o N R B C := fun G σ H e D qn qr qb qc => .inl (h G σ H e D qn qr qb qc)
theorem xs_seqT (h : XS K (tFor (iTup K tl) g tb) ρ o N R B C) : XS K (tFor (iSeq K tl) g tb) ρ o N R B C := fun G σ H e D qn qr qb qc => .inr (h G σ H e D qn qr qb qc)
theorem xe_seqL (h : XE K (tLc (iList K tl) g tt te is) ρ o R) : XE K (tLc (iSeq K tl) g tt te is) ρ o R := fun G σ H e Q q => .inl (h G σ H e Q q)
theorem xe_seqT (h : XE K (tLc (iTup K tl) g tt te is) ρ o R) : XE K (tLc (iSeq K tl) g tt te is) ρ o R := fun G σ H e Q q => .inr (h G σ H e Q q)
/-- for over a list that stands -/
theorem xs_forT {tl : TE} {g : TG} {tb : TS} (h : XEF K tl ρ o fun dv ρ1 o1 => ∃ ds, dv = .d (.tuple ds) ∧ ∃ I : Nat → RE, I 0 ρ1 o1 ∧
      (∀ k d ρ' o', ds[k]? = some d → I k ρ' o' → XG K g (.d d) ρ' o' fun ρ2 o2 => XS K tb ρ2 o2 (I (k + 1)) R N (I (k + 1))) ∧ ∀ ρ' o', I ds.length ρ' o' → N ρ' o') : XS K (tFor (iTup K tl) g tb) ρ o N R B C := fun G σ H e D qn qr qb qc =>
  XE.seq h e fun v dv ρ1 o1 G1 H1 ⟨ds, hd, I, i0, it, ie⟩ s1 e1 ok fr => by
    subst hd
    cases ok with
    | @tup a xs _ hg hx =>
    refine ⟨a, rfl, ⟨xs, SqT.sub e1.wd.sub hg⟩, ?_⟩
    refine for_tup (xs := xs) (fun k σ' H' => ∃ ρ' o' G', I k ρ' o' ∧ Stp ρ σ o G H ρ' σ' o' G' H' ∧ En K o' ρ' G' σ' H' ∧ Sub G1 G') ⟨ρ1, o1, G1, i0, s1, e1, Sub.refl⟩ (fun k σ' H' _ ⟨ρ', o', G', _, _, e', sb⟩ => SqT.sub (sb.trans e'.wd.sub) hg) (fun k x σ' H' hk ⟨ρ', o', G', ik, s', e', sb⟩ => ?_) (fun σ' H' ⟨ρ', o', G', ik, s', e', sb⟩ => ?_)
    · obtain ⟨d, hd, rx⟩ := hx.get hk
      refine it k d ρ' o' hd ik G' σ' H' x e' (Rp.sub sb rx) _ fun ρ2 o2 G2 σ2 H2 r s2 e2 => ?_
      have s12 := s'.trans s2
      exact r G2 σ2 H2 e2 _ (fun _ _ _ _ _ n s e => ⟨_, _, _, n, s12.trans s, e, sb.trans (s2.g.trans s.g)⟩) (fun _ _ _ _ _ _ _ n s e ok fr => qr _ _ _ _ _ _ _ n (s12.trans s) e ok (fr.back s12))
        (fun _ _ _ _ _ n s e => qn _ _ _ _ _ n (s12.trans s) e) (fun _ _ _ _ _ n s e => ⟨_, _, _, n, s12.trans s, e, sb.trans (s2.g.trans s.g)⟩)
    · rw [hx.len] at ik
      exact qn _ _ _ _ _ (ie _ _ ik) s' e'
/-- [e for .. in xs if t] -/
theorem xe_lcT {tl : TE} (h : XEF K tl ρ o fun dv ρ1 o1 => ∃ es, dv = .d (.tuple es) ∧ NoOw ρ1 is ∧ ∃ I : Nat → List PyData → Ob → Prop, I 0 [] o1 ∧
      (∀ k d acc o', es[k]? = some d → acc.length < sizeLine → I k acc o' → ∃ ds, BT K g is d ds ∧ LcTurn K tt te ρ1 is ds o' fun y o2 => match y with | some d => (acc ++ [d]).length < sizeLine ∧ I (k + 1) (acc ++ [d]) o2 | none => I (k + 1) acc o2) ∧
      ∀ acc o', acc.length < sizeLine → I es.length acc o' → R (.new (.lst acc)) ρ1 o') : XE K (tLc (iTup K tl) g tt te is) ρ o R := fun G σ H e0 Q q =>
  h G σ H e0 _ fun v dv ρ1 o1 G1 H1 ⟨es, hd, no, I, i0, it, ie⟩ s1 e1 okl _ => by
    subst hd
    cases okl with
    | @tup a ys _ hg hx =>
    refine ⟨a, rfl, ⟨ys, SqT.sub e1.wd.sub hg⟩, fun D hD => ?_⟩
    have fr := s1.old (.inl hD)
    refine lc_tup (xs := ys) (fun k H' => LcP K (I k) ρ σ o G H ρ1 G1 D H') (lc_start i0 s1 e1 hD) (fun k H' _ p => ?_) (fun k x H' hk p => ?_) fun H' p => ?_
    · obtain ⟨acc, o', G', xs, i, s, e, hD', gD, nf, nw, ok, hl, sb⟩ := p
      exact SqT.sub (sb.trans e.wd.sub) hg
    · obtain ⟨acc, o', G', xs, i, s, e, hD', gD, nf, nw, ok, hl, sb⟩ := p
      obtain ⟨d, hd, rx⟩ := hx.get hk
      obtain ⟨ds, bt, turn⟩ := it k d acc o' hd hl i
      exact lc_turn (I := I k) (I' := I (k + 1)) bt no fr s e hD' gD nf nw ok sb (Rp.sub sb rx) hl e0.wo turn
    · rw [hx.len] at p
      exact lc_end fr q ie p
theorem xe_lcFT {α : Type} (enc : α → PyData) (xs : List α) (p : α → Bool) (f : α → PyData) (h : XEF K tl ρ o fun dv ρ1 o1 => dv = .d (.tuple (xs.map enc)) ∧ NoOw ρ1 is ∧ xs.length < sizeLine ∧
      (∀ x ∈ xs, ∃ ds, BT K g is (enc x) ds ∧ LcOne K tt te ρ1 is ds o1 (p x) (f x)) ∧ R (.new (.lst ((xs.filter p).map f))) ρ1 o1) : XE K (tLc (iTup K tl) g tt te is) ρ o R := by
  refine xe_lcT (XE.mono h fun dv ρ1 o1 ⟨hd, no, hl, one, r⟩ => ⟨xs.map enc, hd, no, fun k acc o' => o' = o1 ∧ acc = ((xs.take k).filter p).map f, ⟨rfl, rfl⟩, ?_, ?_⟩)
  · rintro k d acc o' hk hl2 ⟨rfl, rfl⟩
    obtain ⟨x, hx, rfl⟩ := map_get hk
    obtain ⟨ds, bt, t⟩ := one x (List.mem_of_getElem? hx)
    refine ⟨ds, bt, ?_⟩
    unfold LcTurn
    refine fun G σ H e Q q => t G σ H e Q fun b ρ2 o2 G2 H2 ⟨e1, e2, e3, r⟩ s e' => q b ρ2 o2 G2 H2 ?_ s e'
    subst e2
    refine ⟨e1, fun hb => XE.mono (r hb) fun dv ρ3 o3 ⟨f1, f2, f3⟩ => ⟨f1, _, f3, ?_⟩, fun hb => ?_⟩
    · have hlen : (((xs.take k).filter p).map f ++ [f x]).length ≤ xs.length := by
        have h1 := List.length_filter_le p (xs.take k)
        have h2 := (List.getElem?_eq_some_iff.mp hx).1
        rw [List.length_take] at h1
        rw [List.length_append, List.length_map, List.length_singleton]
        omega
      refine ⟨Nat.lt_of_le_of_lt hlen hl, f2, ?_⟩
      rw [take_snoc hx, List.filter_append, List.map_append, List.filter_cons_of_pos (by rw [← e3]; exact hb)]; rfl
    · refine ⟨rfl, ?_⟩
      rw [take_snoc hx, List.filter_append, List.map_append, List.filter_cons_of_neg (by rw [← e3, hb]; decide)]
      simp
  · rintro acc o' _ ⟨rfl, rfl⟩
    rw [List.length_map, List.take_length]
    exact r
end
/-! ### tuple(..), list(..), extend -/
section
variable {K : Kx} {ρ : List Sl} {o : Ob} {R : RD} {i : Nat}
theorem xc_tupL {dv : DV} {ds : List PyData} (l : IsL ρ dv ds) (r : R (.d (.tuple ds)) ρ o) : XC K (fun xs H Q => ∃ p ys, xs = [V.ref p] ∧ ((SqL K H p ys ∧ ∀ l, H l = none → Q (.ref l) (upd H l (.tup ys))) ∨ (SqT K H p ys ∧ Q (.ref p) H))) [dv] ρ o R := fun G σ H vs e h0 Q q => by
  obtain ⟨v, rfl, h⟩ := va1 h0
  obtain ⟨p, xs, rfl, hp, ok⟩ := l.at e h
  exact ⟨p, xs, rfl, .inl ⟨.inl (.inl hp), xq_tup q e r ok⟩⟩
theorem xc_lstL {dv : DV} {ds : List PyData} (l : IsL ρ dv ds) (r : R (.new (.lst ds)) ρ o) : XC K (fun xs H Q => ∃ p ys, xs = [V.ref p] ∧ (SqL K H p ys ∨ SqT K H p ys) ∧ ∀ l, H l = none → Q (.ref l) (upd H l (.lst ys))) [dv] ρ o R := fun G σ H vs e h0 Q q => by
  obtain ⟨v, rfl, h⟩ := va1 h0
  obtain ⟨p, xs, rfl, hp, ok⟩ := l.at e h
  exact ⟨p, xs, rfl, .inl (.inl (.inl hp)), xq_new q e r ok⟩
theorem xc_lstT {ds : List PyData} (r : R (.new (.lst ds)) ρ o) : XC K (fun xs H Q => ∃ p ys, xs = [V.ref p] ∧ (SqL K H p ys ∨ SqT K H p ys) ∧ ∀ l, H l = none → Q (.ref l) (upd H l (.lst ys))) [.d (.tuple ds)] ρ o R := fun G σ H vs e h0 Q q => by
  obtain ⟨v, rfl, h⟩ := va1 h0
  cases h with
  | @tup a xs _ hs ok => exact ⟨a, xs, rfl, .inr (SqT.sub e.wd.sub hs), xq_new q e r ok⟩
theorem xm_extend {ds es : List PyData} {b : DV} (lb : IsL ρ b es) (nb : ∀ c, b ≠ .sl i c) (c : ds.length + es.length ≤ sizeLine) (h : ρ[i]? = some (.own (.lst ds))) (r : R (.d .none) (ρ.set i (.own (.lst (ds ++ es)))) o) : XM K rExtend (.sl i (.lst ds)) [b] ρ o R := fun G σ H x vs e hx hv0 Q q => by
  obtain ⟨v, rfl, hv⟩ := va1 hv0
  obtain ⟨b', ys, rfl, hb, okb⟩ := lb.at e hv
  obtain ⟨p, y, k1, g1, h1, ok, nf⟩ := e.own_at hx.2
  have hs := hx.1
  rw [k1] at hs
  cases hs
  obtain ⟨xs, rfl⟩ : ∃ xs, y = .lst xs := by cases y <;> first | exact ⟨_, rfl⟩ | exact ok.elim
  have ok : RpAll K G xs ds := ok
  have ok2 : COk K G (.lst (xs ++ ys)) (.lst (ds ++ es)) := ok.append okb
  exact ⟨p, b', xs, ys, rfl, rfl, h1, hb, by rw [ok.len, okb.len]; exact c, q _ _ _ _ _ _ r (e.mut hx.2 k1 ok2).2 (e.mut hx.2 k1 ok2).1 .non trivial⟩
end
theorem ki_dict_non : kitB (tyN .none) "dict" = some false := by decide +kernel
theorem ki_dict_bool {b : Bool} : kitB (tyN (.bool b)) "dict" = some false := by show kitB "bool" "dict" = _; decide +kernel
theorem ki_dict_int {b : Int} : kitB (tyN (.int b)) "dict" = some false := by show kitB "int" "dict" = _; decide +kernel
theorem ki_dict_str {b : Str} : kitB (tyN (.str b)) "dict" = some false := by show kitB "str" "dict" = _; decide +kernel
/-! ### copies -/
inductive SmC : Nat → PyData → Prop where
  | non {n : Nat} : SmC n .none
  | bl {n : Nat} {b : Bool} : SmC n (.bool b)
  | int {n : Nat} {b : Int} : SmC n (.int b)
  | str {n : Nat} {b : Str} : SmC n (.str b)
  | tup {n : Nat} {ds : List PyData} (l : ds.length < 16777216) (h : ∀ d ∈ ds, SmC n d) : SmC (n + 1) (.tuple ds)
  | lst {n : Nat} {ds : List PyData} (l : ds.length < 16777216) (h : ∀ d ∈ ds, SmC n d) : SmC (n + 1) (.list ds)
def cpR : PyData → DV
  | .list ds => .new (.lst ds)
  | d => .d d
def S__law_copy (n : Nat) (_ : PySem.W.Frag) : DS := fun dvs o R X => ∃ d, dvs = [.d d] ∧ SmC n d ∧ R (cpR d) o
theorem fz_cp {ρ : List Sl} {o : Ob} {R : RD} {d : PyData} (h : R (.d d) ρ o) : FzR R (cpR d) ρ o := by
  cases d <;> exact h
theorem filterAll {α : Type} (l : List α) : l.filter (fun _ => true) = l := by simp
end DL

set_option Elab.async false
set_option linter.all false
set_option maxRecDepth 100000
namespace DL
open PySem PySem.Spec PyProof.Rows L2 TL
/-! ### raise -/
def tRaiseC (C : Addr) (W : WX) : TS := fun _ σ H => W (.ref C) none σ H
theorem ps_raiseC {X : Cx} {W : WX} {e : Expr} {C : Addr} {pos : Pos} (hc : X.calm = true) (tk : Takes X W) (he : PMk X e (fun _ H Q => Q (.ref C) none H)) : PS X (.Raise (some e) none pos) (tRaiseC C W) := ps_raise hc tk he
section
variable {K : Kx} {ρ : List Sl} {o : Ob} {R : RD} {N B C : RE} {E : Addr}
theorem xs_raiseC (h : K.Z (.ref E, none) ρ o) : XS K (tRaiseC E K.W) ρ o N R B C := fun G σ H e D qn qr qb qc =>
  e.wo (.ref E) none none ρ o G σ H h Stp.refl e.toEnB trivial
end
/-! ### a name is gone -/
section
variable {K : Kx} {ρ : List Sl} {σ : L2.St} {o : Ob} {G H : Hp}
theorem En.unset (e : En K o ρ G σ H) {i : Nat} (hi : i < ρ.length) : En K o (ρ.set i .no) G (σ.set i none) H ∧ Stp ρ σ o G H (ρ.set i .no) (σ.set i none) o G H := by
  have hσ : i < σ.length := by rw [e.len]; exact hi
  have back : ∀ j q, OwnAt (ρ.set i .no) (σ.set i none) j q → OwnAt ρ σ j q := fun j q ⟨⟨c, hc⟩, hs'⟩ => by
    by_cases hj : j = i
    · subst hj
      rw [List.getElem?_set_self hi] at hc
      cases hc
    · rw [List.getElem?_set_ne (Ne.symm hj)] at hc hs'
      exact ⟨⟨c, hc⟩, hs'⟩
  have stp : Stp ρ σ o G H (ρ.set i .no) (σ.set i none) o G H := ⟨Sub.refl, fun _ _ h _ _ => h, fun _ h _ _ _ => h, fun _ h => .inl h, fun a ⟨j, hq⟩ => .inl ⟨j, back j a hq⟩⟩
  refine ⟨⟨⟨e.wd, by simpa using e.len, fun j s' hj => ?_, fun j k q a b => e.dis j k q (back j q a) (back k q b), fun q ⟨j, hq⟩ => e.onf q ⟨j, back j q hq⟩⟩, e.wo.step stp⟩, stp⟩
  by_cases hji : j = i
  · subst hji
    rw [List.getElem?_set_self hi] at hj
    cases hj
    exact ⟨_, List.getElem?_set_self hσ, trivial⟩
  · rw [List.getElem?_set_ne (Ne.symm hji)] at hj
    obtain ⟨ov, k1, k2⟩ := e.sl j s' hj
    exact ⟨ov, by rw [List.getElem?_set_ne (Ne.symm hji)]; exact k1, k2⟩
end
/-! ### try .. except -/
def tTryAs (K : PySem.W.Frag) (c : Value) (i : Nat) (tb : WX → TS) (ts : Addr → Value → Option Addr → TS) (Wout : WX) : TS := fun D σ H => tb (wAs K c i ts Wout D) D σ H
def tTryOnly (K : PySem.W.Frag) (c : Value) (tb : WX → TS) (ts : Addr → Value → Option Addr → TS) (Wout : WX) : TS := fun D σ H => tb (wOnly K c ts Wout D) D σ H
section
variable {X : Cx} {K : PySem.W.Frag} {x n : Str} {c : Value} {i : Nat} {body suite : List Stmt} {b₀ : Stmt} {np pos pos' : Pos} {tb : WX → TS} {ts : Addr → Value → Option Addr → TS} {Wout : WX}
theorem ps_tryAs (hK : X.K = K) (hs : X.stack = X.env :: X.outer) (hf : X.env.frame = some X.env.locals) (hN : X.N.Nodup) (hi : X.N[i]? = some n) (hln : X.env.kindOf n = some .local) (hc : Names X x c) (tk : Takes X Wout)
    (hb : ∀ (W : WX) (pn : List (Addr × Obj)) (xe : Value → Shared → Prop), Takes (X.tr pn xe) W → PassesOwn (model X.prog X.w) X.A X.env xe → PSs (X.tr pn xe) body (tb W))
    (hsu : ∀ (a : Addr) (oe : Obj) (cls : Value) (d : Option Addr) (pn : List (Addr × Obj)), Zc cls d oe → (∃ vs, oe.data = .fields vs) → PSs (X.suite a ((a, oe) :: pn)) (b₀ :: suite) (ts a cls d)) :
    PS X (.Try body [.ExceptHandler (some (.Name x np)) (some n) (b₀ :: suite) pos'] [] [] pos) (tTryAs K c i tb ts Wout) := by
  subst hK
  exact ps_try_as hs hf hN hi hln hc tk hb hsu
theorem ps_tryOnly (hK : X.K = K) (hs : X.stack = X.env :: X.outer) (hf : X.env.frame = some X.env.locals) (hc : Names X x c) (tk : Takes X Wout)
    (hb : ∀ (W : WX) (pn : List (Addr × Obj)) (xe : Value → Shared → Prop), Takes (X.tr pn xe) W → PassesOwn (model X.prog X.w) X.A X.env xe → PSs (X.tr pn xe) body (tb W))
    (hsu : ∀ (a : Addr) (oe : Obj) (cls : Value) (d : Option Addr) (pn : List (Addr × Obj)), Zc cls d oe → (∃ vs, oe.data = .fields vs) → PSs (X.suite a ((a, oe) :: pn)) (b₀ :: suite) (ts a cls d)) :
    PS X (.Try body [.ExceptHandler (some (.Name x np)) none (b₀ :: suite) pos'] [] [] pos) (tTryOnly K c tb ts Wout) := by
  subst hK
  exact ps_try_only hs hf hc tk hb hsu
end
section
variable {K : Kx} {ρ : List Sl} {o : Ob} {R : RD} {N B C : RE} {c : Value} {i : Nat} {tb : WX → TS} {ts : Addr → Value → Option Addr → TS}
/-- Z: what is known where the body raises -/
theorem xs_tryOnly (Z : Ex → RE) (hb : ∀ W : WX, XS ⟨K.K, W, Z⟩ (tb W) ρ o N R B C) (hs : ∀ cls fs ρ' o', Z (cls, fs) ρ' o' → ∃ b, PySem.W.exmOne K cls c = some b ∧
      (b = true → ∀ a d, (d = none ↔ fs = none) → XS K (ts a cls d) ρ' o' N R B C) ∧ (b = false → K.Z (cls, fs) ρ' o')) : XS K (tTryOnly K c tb ts K.W) ρ o N R B C := fun G σ H e D qn qr qb qc => by
  have wo : WOk ⟨K.K, wOnly K.K c ts K.W D, Z⟩ o ρ G σ H := fun cls fs d ρ' o' G' σ' H' z s e' ek => by
    obtain ⟨b, hb, ht, hf⟩ := hs cls fs ρ' o' z
    have dn : d = none ↔ fs = none := by cases d <;> cases fs <;> simp_all [EOk]
    refine ⟨b, hb, fun h a _ => ?_, fun h => e.wo cls fs d ρ' o' G' σ' H' (hf h) s e' ek⟩
    exact ht h a d dn G' σ' H' ⟨e', e.wo.step s⟩ D (fun _ _ _ _ _ n s2 e2 => qn _ _ _ _ _ n (s.trans s2) e2) (fun _ _ _ _ _ _ _ n s2 e2 ok fr => qr _ _ _ _ _ _ _ n (s.trans s2) e2 ok (fr.back s)) (fun _ _ _ _ _ n s2 e2 => qb _ _ _ _ _ n (s.trans s2) e2) (fun _ _ _ _ _ n s2 e2 => qc _ _ _ _ _ n (s.trans s2) e2)
  have up : ∀ {ρ' o' G' σ' H'}, Stp ρ σ o G H ρ' σ' o' G' H' → En ⟨K.K, wOnly K.K c ts K.W D, Z⟩ o' ρ' G' σ' H' → En K o' ρ' G' σ' H' := fun s e' => ⟨e'.toEnB, e.wo.step s⟩
  exact hb _ G σ H ⟨e.toEnB, wo⟩ D (fun _ _ _ _ _ n s e => qn _ _ _ _ _ n s (up s e)) (fun _ _ _ _ _ _ _ n s e ok fr => qr _ _ _ _ _ _ _ n s (up s e) ok fr) (fun _ _ _ _ _ n s e => qb _ _ _ _ _ n s (up s e)) (fun _ _ _ _ _ n s e => qc _ _ _ _ _ n s (up s e))
theorem xs_tryAs (Z : Ex → RE) (hb : ∀ W : WX, XS ⟨K.K, W, Z⟩ (tb W) ρ o N R B C) (hs : ∀ cls fs ρ' o', Z (cls, fs) ρ' o' → ∃ b, PySem.W.exmOne K cls c = some b ∧
      (b = true → ∀ a d, (d = none ↔ fs = none) → Nat.blt i ρ'.length = true ∧ XS K (ts a cls d) (ρ'.set i (.raw (.ref a))) o' (fun ρ2 o2 => Nat.blt i ρ2.length = true ∧ N (ρ2.set i .no) o2) R (fun ρ2 o2 => Nat.blt i ρ2.length = true ∧ B (ρ2.set i .no) o2) (fun ρ2 o2 => Nat.blt i ρ2.length = true ∧ C (ρ2.set i .no) o2)) ∧ (b = false → K.Z (cls, fs) ρ' o')) :
    XS K (tTryAs K c i tb ts K.W) ρ o N R B C := fun G σ H e D qn qr qb qc => by
  have wo : WOk ⟨K.K, wAs K.K c i ts K.W D, Z⟩ o ρ G σ H := fun cls fs d ρ' o' G' σ' H' z s e' ek => by
    obtain ⟨b, hb, ht, hf⟩ := hs cls fs ρ' o' z
    have dn : d = none ↔ fs = none := by cases d <;> cases fs <;> simp_all [EOk]
    refine ⟨b, hb, fun h a _ => ?_, fun h => e.wo cls fs d ρ' o' G' σ' H' (hf h) s e' ek⟩
    obtain ⟨hl, x⟩ := ht h a d dn
    obtain ⟨e3, s3⟩ := En.store (K := K) ⟨e', e.wo.step s⟩ (lt_of_blt hl) (v := .ref a) (s := .raw (.ref a)) rfl (fun c z => nomatch z)
    have s03 := s.trans s3
    exact x G' _ H' e3 _ (fun _ _ _ _ _ ⟨hl, n⟩ s2 e2 => qn _ _ _ _ _ n ((s03.trans s2).trans (e2.unset (lt_of_blt hl)).2) (e2.unset (lt_of_blt hl)).1) (fun _ _ _ _ _ _ _ n s2 e2 ok fr => qr _ _ _ _ _ _ _ n (s03.trans s2) e2 ok (fr.back s03))
      (fun _ _ _ _ _ ⟨hl, n⟩ s2 e2 => qb _ _ _ _ _ n ((s03.trans s2).trans (e2.unset (lt_of_blt hl)).2) (e2.unset (lt_of_blt hl)).1) (fun _ _ _ _ _ ⟨hl, n⟩ s2 e2 => qc _ _ _ _ _ n ((s03.trans s2).trans (e2.unset (lt_of_blt hl)).2) (e2.unset (lt_of_blt hl)).1)
  have up : ∀ {ρ' o' G' σ' H'}, Stp ρ σ o G H ρ' σ' o' G' H' → En ⟨K.K, wAs K.K c i ts K.W D, Z⟩ o' ρ' G' σ' H' → En K o' ρ' G' σ' H' := fun s e' => ⟨e'.toEnB, e.wo.step s⟩
  exact hb _ G σ H ⟨e.toEnB, wo⟩ D (fun _ _ _ _ _ n s e => qn _ _ _ _ _ n s (up s e)) (fun _ _ _ _ _ _ _ n s e ok fr => qr _ _ _ _ _ _ _ n s (up s e) ok fr) (fun _ _ _ _ _ n s e => qb _ _ _ _ _ n s (up s e)) (fun _ _ _ _ _ n s e => qc _ _ _ _ _ n s (up s e))
end
/-! ### isinstance of the caught error -/
/-- e the error that the suite holds -/
def rIsEx (K : PySem.W.Frag) (cls : Value) (d : Option Addr) (a : Addr) : List V → Hp → VK → Prop := fun xs H Q => ∃ (D : Addr) (c : V) (cv : Value) (b : Bool), cls = .ref D ∧ d = none ∧ ExcC K D ∧ xs = [.ref a, c] ∧ (∀ u, RelV c u → u = cv) ∧ PySem.W.kitOne K (.ref D) cv = some b ∧ Q (.bl b) H
theorem call_isEx {X : Cx} {K : PySem.W.Frag} {a : Addr} {cls : Value} {d : Option Addr} {oe : Obj} {pn : List (Addr × Obj)} (hK : X.K = K) (hz : Zc cls d oe) (hf : ∃ vs, oe.data = .fields vs) : CallR (X.suite a ((a, oe) :: pn)) (.builtin "isinstance") (rIsEx K cls d a) := by
  subst hK
  intro pins s σ H xs us Q I r h
  obtain ⟨D, c, cv, b, rfl, rfl, C, rest⟩ := h
  exact call_isE C hz hf pins s σ H xs us Q I r ⟨c, cv, b, rest⟩
section
variable {K : Kx} {ρ : List Sl} {o : Ob} {R : RD} {D a : Addr} {cls : Value} {d : Option Addr}
theorem xc_isExT {n : String} {b : Bool} (hc : cls = .ref D) (hd : d = none) (C : ExcC K D) (h : PySem.W.kitOne K (.ref D) (.type n) = some b) (r : R (.d (.bool b)) ρ o) : XC K (rIsEx K cls d a) [.raw (.ref a), .raw (.ty n)] ρ o R := fun G σ H vs e h0 Q q => by
  obtain ⟨v, u, rfl, h1, h2⟩ := va2 h0
  have h1 : v = .ref a := h1
  have h2 : u = .ty n := h2
  subst h1 h2
  exact ⟨D, _, _, b, hc, hd, C, rfl, fun u r => r, h, xq_now q e r (.bl _)⟩
theorem xc_isExR {E : Addr} {b : Bool} (hc : cls = .ref D) (hd : d = none) (C : ExcC K D) (h : PySem.W.kitOne K (.ref D) (.ref E) = some b) (r : R (.d (.bool b)) ρ o) : XC K (rIsEx K cls d a) [.raw (.ref a), .raw (.ref E)] ρ o R := fun G σ H vs e h0 Q q => by
  obtain ⟨v, u, rfl, h1, h2⟩ := va2 h0
  have h1 : v = .ref a := h1
  have h2 : u = .ref E := h2
  subst h1 h2
  exact ⟨D, _, _, b, hc, hd, C, rfl, fun u r => r, h, xq_now q e r (.bl _)⟩
end
/-! ### classes of errors by their names -/
def ExN (K : PySem.W.Frag) (x : Str) (ex : Ex) : Prop := PySem.W.nsIn K mainGlobals x = some (some ex.1) ∧ ex.2 = none
theorem passA {X : Cx} {σ : L2.St} : PassesAt (L2.CX X.prog X.w) X σ (WE (fun _ _ _ _ => False) σ) := fun _ _ _ _ _ _ h => by
  obtain ⟨_, _, _, _, _, _, _, _, _, _, _, _, z⟩ := h
  exact z.elim
theorem kit_ref {K : PySem.W.Frag} {t : Value} {C : Addr} (hd : PySem.W.hasDictIn K C = true) (ht : PySem.W.typeIn K (.ref C) = some (.type "type")) (hs : PySem.W.subIn K t (.ref C) = some true) : PySem.W.kitOne K t (.ref C) = some true := by
  obtain ⟨cd, hc, _⟩ := PySem.W.any_some hd
  unfold PySem.W.kitOne PySem.W.kitCls
  split
  · rfl
  · have e2 : ((PySem.W.clsIn K C).isSome && PySem.W.typeIn K (.ref C) == some (.type "type")) = true := by rw [hc, ht] <;> rfl
    show (if ((PySem.W.clsIn K C).isSome && PySem.W.typeIn K (.ref C) == some (.type "type")) = true then PySem.W.subIn K t (.ref C) else none) = some true
    rw [if_pos e2]
    exact hs
theorem kit_typ {K : PySem.W.Frag} {C : Addr} {n : String} (hm : PySem.W.kitMeta n = true) (hs : PySem.W.subIn K (.ref C) (.type n) = some true) : PySem.W.kitOne K (.ref C) (.type n) = some true := by
  unfold PySem.W.kitOne PySem.W.kitCls
  split
  · rfl
  · show (if PySem.W.kitMeta n = true then PySem.W.subIn K (.ref C) (.type n) else none) = some true
    rw [if_pos hm]
    exact hs
/-! ### a text times a number -/
def rRepS : R2 := fun x y H Q => ∃ (z : Str) (k : Int), x = .str z ∧ y = .int k ∧ 1 ≤ k ∧ k < 2 ^ 62 ∧ z.length * k.toNat ≤ sizeLine ∧ ∀ r : Str, tl r = (List.replicate k.toNat (tl z)).flatten → Q (.str r) H
theorem foldl_app (l : Array Nat) : ∀ (m : Nat) (a : Array Nat), ((List.replicate m l).foldl (fun x y => x ++ y) a).toList = a.toList ++ (List.replicate m l.toList).flatten
  | 0, a => by simp
  | m + 1, a => by
    rw [List.replicate_succ, List.foldl_cons, foldl_app l m, List.replicate_succ, List.flatten_cons, Array.toList_append, List.append_assoc]
theorem op_repS {X : Cx} : OpR X (binaryOp .Mult) rRepS := by
  intro pins s σ H x y v u Q I rx ry h
  obtain ⟨z, k, rfl, rfl, h1, h2, hz, q⟩ := h
  obtain ⟨t, rfl⟩ := rx
  obtain ⟨t', rfl⟩ := ry
  have hs : sizeLine = 16777216 := sizeLine_eq
  refine PySem.P.mul_str ?_ (fun _ h => ?_) (fun _ _ => ?_) ?_
  · rw [decide_eq_false (by omega), decide_eq_false (by omega)]; rfl
  · have hk : k ≠ 1 := fun e => by rw [e] at h; simp at h
    have hz0 : z.length ≠ 0 := fun e => by rw [e] at h; simp at h
    intro hgt
    have hle : (z.length : Int) * k ≤ 16777216 := by
      have : (z.length : Int) * (k.toNat : Int) ≤ 16777216 := by
        have := Int.ofNat_le.mpr hz
        rw [hs] at this
        simpa using this
      rwa [Int.toNat_of_nonneg (by omega)] at this
    have := Int.lt_mul_of_ediv_lt (by omega : (0 : Int) < k) hgt
    omega
  · show decide _ = false
    exact decide_eq_false (by
      show ¬ sizeLine < z.length * k.toNat
      omega)
  · rw [if_neg (by omega)]
    split
    · rename_i h
      have : tl z = (List.replicate k.toNat (tl z)).flatten := by
        by_cases hk : k = 1
        · subst hk; simp
        · have hz0 : z.length = 0 := by simpa [hk] using h
          have : tl z = [] := List.eq_nil_of_length_eq_zero (by rw [← len_tl]; exact hz0)
          rw [this]
          induction k.toNat with
          | zero => rfl
          | succ n ih => rw [List.replicate_succ, List.flatten_cons, ← ih]; rfl
      exact ⟨.str z, H, I, ⟨t, rfl⟩, q z this⟩
    · have e : tl (⟨(List.replicate k.toNat z.cps).foldl (· ++ ·) #[]⟩ : Str) = (List.replicate k.toNat (tl z)).flatten := by
        show (List.foldl (fun x y => x ++ y) #[] (List.replicate k.toNat z.cps)).toList = _
        rw [foldl_app]; rfl
      refine ⟨?_, .str _, H, I.tok _, ⟨_, rfl⟩, q _ e⟩
      rw [len_tl, e, List.length_flatten]
      simp only [List.map_replicate, List.sum_replicate_nat]
      rw [← len_tl, Nat.mul_comm]
      exact hz
section
variable {K : Kx} {ρ : List Sl} {o : Ob} {R : RD}
theorem xr_repS {z : Str} {k : Int} (h1 : 1 ≤ k) (h2 : k < 2 ^ 62) (h3 : z.length * k.toNat ≤ sizeLine) (r : ∀ s : Str, tl s = (List.replicate k.toNat (tl z)).flatten → R (.d (.str s)) ρ o) : XR K rRepS (.d (.str z)) (.d (.int k)) ρ o R := fun G σ H x y e k1 k2 Q q =>
  ⟨z, k, vok_str k1, vok_int k2, h1, h2, h3, fun s hs => xq_now q e (r s hs) (.str _)⟩
end
/-! ### is True, is False -/
def rIsB : R2 := fun x y H Q => ∃ i j : Bool, x = .bl i ∧ y = .bl j ∧ Q (.bl (i == j)) H
def rNotB : R2 := fun x y H Q => ∃ i j : Bool, x = .bl i ∧ y = .bl j ∧ Q (.bl (!(i == j))) H
theorem op_isB {X : Cx} : OpR X (compareOp .Is) rIsB := by
  intro pins s σ H x y v u Q I rx ry h
  obtain ⟨i, j, rfl, rfl, q⟩ := h
  cases rx
  cases ry
  exact wpAny_is_plain (by cases i <;> cases j <;> rfl) ⟨.bl (i == j), H, I, by cases i <;> cases j <;> rfl, q⟩
theorem op_isnotB {X : Cx} : OpR X (compareOp .IsNot) rNotB := by
  intro pins s σ H x y v u Q I rx ry h
  obtain ⟨i, j, rfl, rfl, q⟩ := h
  cases rx
  cases ry
  exact wpAny_isNot_plain (by cases i <;> cases j <;> rfl) ⟨.bl (!(i == j)), H, I, by cases i <;> cases j <;> rfl, q⟩
section
variable {K : Kx} {ρ : List Sl} {o : Ob} {R : RD}
theorem xr_isB {i j : Bool} (r : R (.d (.bool (i == j))) ρ o) : XR K rIsB (.d (.bool i)) (.d (.bool j)) ρ o R := fun G σ H x y e k1 k2 Q q => ⟨i, j, vok_bl k1, vok_bl k2, xq_now q e r (.bl _)⟩
theorem xr_notB {i j : Bool} (r : R (.d (.bool (!(i == j)))) ρ o) : XR K rNotB (.d (.bool i)) (.d (.bool j)) ρ o R := fun G σ H x y e k1 k2 Q q => ⟨i, j, vok_bl k1, vok_bl k2, xq_now q e r (.bl _)⟩
end
end DL

set_option Elab.async false
set_option linter.all false
set_option maxRecDepth 100000
namespace DL
open PySem PySem.Spec PyProof.Rows L2 TL
/-! ### two objects side by side -/
def Ob.and (A B : Ob) : Ob where
  fp := fun a => A.fp a ∨ B.fp a
  ok := fun G H => A.ok G H ∧ B.ok G H ∧ (∀ a, A.fp a → ¬ B.fp a)
  st := fun G H G' H' ⟨h1, h2, h3⟩ s h => ⟨A.st G H G' H' h1 s fun a ha => h a (.inl ha), B.st G H G' H' h2 s fun a ha => h a (.inr ha), h3⟩
theorem and_comm_le {A B : Ob} : Ob.le (A.and B) (B.and A) := ⟨fun a => Or.comm, fun G H ⟨h1, h2, h3⟩ => ⟨h2, h1, fun a hb ha => h3 a ha hb⟩⟩
theorem and_assoc_le {A B C : Ob} : Ob.le ((A.and B).and C) (A.and (B.and C)) := ⟨fun a => by show A.fp a ∨ B.fp a ∨ C.fp a ↔ (A.fp a ∨ B.fp a) ∨ C.fp a; exact (or_assoc).symm,
  fun G H ⟨⟨h1, h2, h3⟩, h4, h5⟩ => ⟨h1, ⟨h2, h4, fun a hb => h5 a (.inr hb)⟩, fun a ha hbc => hbc.elim (h3 a ha) (h5 a (.inl ha))⟩⟩
theorem and_assoc_le' {A B C : Ob} : Ob.le (A.and (B.and C)) ((A.and B).and C) := ⟨fun a => by show (A.fp a ∨ B.fp a) ∨ C.fp a ↔ A.fp a ∨ B.fp a ∨ C.fp a; exact or_assoc,
  fun G H ⟨h1, ⟨h2, h4, h5⟩, h3⟩ => ⟨⟨h1, h2, fun a ha hb => h3 a ha (.inl hb)⟩, h4, fun a hab hc => hab.elim (fun ha => h3 a ha (.inr hc)) fun hb => h5 a hb hc⟩⟩
theorem Ob.le.refl {A : Ob} : Ob.le A A := ⟨fun _ => Iff.rfl, fun _ _ h => h⟩
theorem Ob.le.trans {A B C : Ob} (h : Ob.le A B) (k : Ob.le B C) : Ob.le A C := ⟨fun a => (k.fp a).trans (h.fp a), fun G H x => k.ok G H (h.ok G H x)⟩
theorem Ob.le.and {A A' B B' : Ob} (h : Ob.le A A') (k : Ob.le B B') : Ob.le (A.and B) (A'.and B') :=
  ⟨fun a => or_congr (h.fp a) (k.fp a), fun G H ⟨h1, h2, h3⟩ => ⟨h.ok G H h1, k.ok G H h2, fun a ha hb => h3 a ((h.fp a).mp ha) ((k.fp a).mp hb)⟩⟩
/-- the wishes, seen from a part of the objects -/
abbrev Kx.fr (K : Kx) (F : Ob) : Kx := ⟨K.K, K.W, fun ex ρ o => K.Z ex ρ (o.and F)⟩
section
variable {K : Kx} {ρ ρ' : List Sl} {σ σ' : L2.St} {o o' P P' F : Ob} {G H G' H' : Hp} {R : RD} {N B C : RE} {te : TE} {ts : TS} {T : TA}
theorem EnB.part (e : EnB K (P.and F) ρ G σ H) : EnB K P ρ G σ H :=
  ⟨⟨e.wd.sub, fun a h => e.wd.nfp a (.inl h), fun a h => e.wd.occ a (.inl h), e.wd.ok.1⟩, e.len, e.sl, e.dis, fun a h z => e.onf a h (.inl z)⟩
theorem Stp.whole (e : EnB K (P.and F) ρ G σ H) (s : Stp ρ σ P G H ρ' σ' P' G' H') : Stp ρ σ (P.and F) G H ρ' σ' (P'.and F) G' H' where
  g := s.g
  h := fun a x hx h1 h2 => s.h a x hx (fun z => h1 (.inl z)) h2
  n := fun a g hx h1 h2 => s.n a g hx (fun z => h1 (.inl z)) h2
  f := fun a h => h.elim (fun h => (s.f a h).elim (fun z => .inl (.inl z)) .inr) fun h => .inl (.inr h)
  w := fun a h => (s.w a h).imp id fun z => z.imp id fun z => .inl z
theorem EnB.whole (e : EnB K (P.and F) ρ G σ H) (s : Stp ρ σ P G H ρ' σ' P' G' H') (e' : EnB K P' ρ' G' σ' H') : EnB K (P'.and F) ρ' G' σ' H' := by
  have nP : ∀ a, F.fp a → ¬ P.fp a := fun a h z => e.wd.ok.2.2 a z h
  have nO : ∀ a, F.fp a → ¬ Own ρ σ a := fun a h z => e.onf a z (.inr h)
  have st : ∀ a, F.fp a → H' a = H a := fun a h => by
    obtain ⟨x, hx⟩ := e.wd.occ a (.inr h)
    rw [hx]
    exact s.h a x hx (nP a h) (nO a h)
  refine ⟨⟨e'.wd.sub, fun a h => h.elim (e'.wd.nfp a) fun h => s.n a (e.wd.nfp a (.inr h)) (e.wd.occ a (.inr h)) (nP a h) (nO a h), fun a h => h.elim (e'.wd.occ a) fun h => ?_, e'.wd.ok, F.st _ _ _ _ e.wd.ok.2.1 s.g st, fun a h hF => ?_⟩, e'.len, e'.sl, e'.dis, fun a h z => z.elim (e'.onf a h) fun hF => ?_⟩
  · rw [st a h]; exact e.wd.occ a (.inr h)
  · obtain ⟨x, hx⟩ := e.wd.occ a (.inr hF)
    rcases s.f a h with z | z | z
    · exact nP a hF z
    · rw [hx] at z; cases z
    · exact nO a hF z
  · obtain ⟨x, hx⟩ := e.wd.occ a (.inr hF)
    rcases s.w a h with z | z | z
    · exact nO a hF z
    · rw [hx] at z; cases z
    · exact nP a hF z
theorem En.part (e : En K (P.and F) ρ G σ H) : En (K.fr F) P ρ G σ H :=
  ⟨e.toEnB.part, fun cls fs d ρ' o' G' σ' H' z s e' ek => e.wo cls fs d ρ' (o'.and F) G' σ' H' z (Stp.whole e.toEnB s) (e.toEnB.whole s e') ek⟩
theorem En.whole (e : En K (P.and F) ρ G σ H) (s : Stp ρ σ P G H ρ' σ' P' G' H') (e' : En (K.fr F) P' ρ' G' σ' H') : En K (P'.and F) ρ' G' σ' H' :=
  ⟨e.toEnB.whole s e'.toEnB, e.wo.step (Stp.whole e.toEnB s)⟩
theorem VOk.whole {v : V} {dv : DV} (e : EnB K (P.and F) ρ G σ H) (s : Stp ρ σ P G H ρ' σ' P' G' H') (ok : VOk K P' ρ' G' σ' H' v dv) (fr : VFr ρ σ P H v dv) : VOk K (P'.and F) ρ' G' σ' H' v dv ∧ VFr ρ σ (P.and F) H v dv := by
  cases dv with
  | d x => exact ⟨ok, trivial⟩
  | raw x => exact ⟨ok, trivial⟩
  | sl i c => exact ⟨ok, trivial⟩
  | new c =>
    obtain ⟨p, y, hv, g1, h1, ok, nf, no⟩ := ok
    refine ⟨⟨p, y, hv, g1, h1, ok, fun z => z.elim nf fun hF => ?_, no⟩, fun q hq => (fr q hq).imp id fun z => z.imp .inl id⟩
    obtain ⟨x, hx⟩ := e.wd.occ p (.inr hF)
    rcases fr p hv with z | z | z
    · rw [hx] at z; cases z
    · exact e.wd.ok.2.2 p z hF
    · exact e.onf p z (.inr hF)
/-- THE FRAME RULE -/
theorem xe_frame (h : XE (K.fr F) te ρ P fun dv ρ' P' => R dv ρ' (P'.and F)) : XE K te ρ (P.and F) R := fun G σ H e Q q =>
  h G σ H e.part Q fun v dv ρ' o' G' H' r s e' ok fr => q v dv ρ' (o'.and F) G' H' r (Stp.whole e.toEnB s) (e.whole s e') (VOk.whole e.toEnB s ok fr).1 (VOk.whole e.toEnB s ok fr).2
theorem xs_frame (h : XS (K.fr F) ts ρ P (fun ρ' o' => N ρ' (o'.and F)) (fun dv ρ' o' => R dv ρ' (o'.and F)) (fun ρ' o' => B ρ' (o'.and F)) fun ρ' o' => C ρ' (o'.and F)) : XS K ts ρ (P.and F) N R B C := fun G σ H e D qn qr qb qc =>
  h G σ H e.part D (fun _ _ _ _ _ n s e' => qn _ _ _ _ _ n (Stp.whole e.toEnB s) (e.whole s e')) (fun _ _ _ _ _ _ _ n s e' ok fr => qr _ _ _ _ _ _ _ n (Stp.whole e.toEnB s) (e.whole s e') (VOk.whole e.toEnB s ok fr).1 (VOk.whole e.toEnB s ok fr).2)
    (fun _ _ _ _ _ n s e' => qb _ _ _ _ _ n (Stp.whole e.toEnB s) (e.whole s e')) (fun _ _ _ _ _ n s e' => qc _ _ _ _ _ n (Stp.whole e.toEnB s) (e.whole s e'))
/-- the objects under another form -/
theorem xe_obj (l : Ob.le o o') (h : XE K te ρ o' R) : XE K te ρ o R := fun G σ H e Q q =>
  have s0 : Stp ρ σ o G H ρ σ o' G H := Stp.refl.le l
  h G σ H (e.le l) Q fun v dv ρ' o2 G' H' r s e' ok fr => q v dv ρ' o2 G' H' r (s0.trans s) e' ok (fr.back s0)
theorem xs_obj (l : Ob.le o o') (h : XS K ts ρ o' N R B C) : XS K ts ρ o N R B C := fun G σ H e D qn qr qb qc =>
  have s0 : Stp ρ σ o G H ρ σ o' G H := Stp.refl.le l
  h G σ H (e.le l) D (fun _ _ _ _ _ n s e => qn _ _ _ _ _ n (s0.trans s) e) (fun _ _ _ _ _ _ _ n s e ok fr => qr _ _ _ _ _ _ _ n (s0.trans s) e ok (fr.back s0)) (fun _ _ _ _ _ n s e => qb _ _ _ _ _ n (s0.trans s) e) (fun _ _ _ _ _ n s e => qc _ _ _ _ _ n (s0.trans s) e)
/-- objects that are not needed any more -/
theorem xs_drop1 (h : XS K ts ρ F N R B C) : XS K ts ρ (P.and F) N R B C := XS.enter fun G σ H e =>
  ⟨F, ⟨⟨e.wd.sub, fun a h => e.wd.nfp a (.inr h), fun a h => e.wd.occ a (.inr h), e.wd.ok.2.1⟩, e.len, e.sl, e.dis, fun a h z => e.onf a h (.inr z)⟩, fun a h => .inl (.inr h), fun a h => .inr h, h⟩
theorem xe_objOut {l : ∀ o : Ob, Ob} (hl : ∀ o, Ob.le o (l o)) (h : XE K te ρ o fun dv ρ' o' => R dv ρ' (l o')) : XE K te ρ o R := fun G σ H e Q q =>
  h G σ H e Q fun v dv ρ' o2 G' H' r s e' ok fr => q v dv ρ' (l o2) G' H' r (s.le (hl o2)) (e'.le (hl o2)) (ok.le (hl o2)) fr
end
/-! ### instances -/
def clsA (K : PySem.W.Frag) (x : Str) : Addr := match PySem.W.nsIn K mainGlobals x with
  | some (some (.ref a)) => a
  | _ => 0
theorem clsA_of {K : PySem.W.Frag} {x : Str} {a : Addr} (h : PySem.W.nsIn K mainGlobals x = some (some (.ref a))) : clsA K x = a := by
  unfold clsA
  rw [h]
abbrev Fls := List (Str × PyData)
abbrev FlR (K : PySem.W.Frag) (G : Hp) (vs : List (Str × V)) (fs : Fls) : Prop := Paired (fun (p : Str × V) (q : Str × PyData) => p.1 = q.1 ∧ Rp K G p.2 q.2) vs fs
/-- an instance of the class C at a, its dict at dx, its attributes fs -/
def insOb (K : PySem.W.Frag) (C a dx : Addr) (fs : Fls) : Ob where
  fp := fun b => b = a ∨ b = dx
  ok := fun G H => ∃ vs, H a = some (.ins C dx vs) ∧ H dx = some (.own a) ∧ FlR K G vs fs
  st := fun G H G' H' ⟨vs, h1, h2, h3⟩ s h => ⟨vs, by rw [h a (.inl rfl)]; exact h1, by rw [h dx (.inr rfl)]; exact h2, Paired.mapP h3 fun p q z => ⟨z.1, Rp.sub s z.2⟩⟩
def putFD (f : Str) (d : PyData) : Fls → Fls
  | [] => [(f, d)]
  | (g, e) :: r => if g = f then (g, d) :: r else (g, e) :: putFD f d r
section
variable {K : PySem.W.Frag} {G : Hp}
theorem FlR.look {vs : List (Str × V)} {fs : Fls} (h : FlR K G vs fs) (f : Str) : (vs.lookup f = none ∧ fs.lookup f = none) ∨ ∃ v d, vs.lookup f = some v ∧ fs.lookup f = some d ∧ Rp K G v d := by
  induction h with
  | nil => exact .inl ⟨rfl, rfl⟩
  | @cons p q a b h t ih =>
    obtain ⟨h1, h2⟩ := h
    obtain ⟨x, v⟩ := p
    obtain ⟨y, d⟩ := q
    obtain rfl : x = y := h1
    by_cases e : f = x
    · subst e
      exact .inr ⟨v, d, by simp [List.lookup], by simp [List.lookup], h2⟩
    · have e' : (f == x) = false := by simpa using e
      have z1 : ((x, v) :: a).lookup f = a.lookup f := by simp [List.lookup, e']
      have z2 : ((x, d) :: b).lookup f = b.lookup f := by simp [List.lookup, e']
      rw [z1, z2]
      exact ih
theorem FlR.put {vs : List (Str × V)} {fs : Fls} (h : FlR K G vs fs) (f : Str) {v : V} {d : PyData} (r : Rp K G v d) : FlR K G (putF f v vs) (putFD f d fs) := by
  induction h with
  | nil => exact .cons ⟨rfl, r⟩ .nil
  | @cons p q a b h t ih =>
    obtain ⟨h1, h2⟩ := h
    obtain ⟨x, w⟩ := p
    obtain ⟨y, e⟩ := q
    obtain rfl : x = y := h1
    show FlR K G (if x = f then (x, v) :: a else (x, w) :: putF f v a) (if x = f then (x, d) :: b else (x, e) :: putFD f d b)
    by_cases hx : x = f
    · rw [if_pos hx, if_pos hx]; exact .cons ⟨rfl, r⟩ t
    · rw [if_neg hx, if_neg hx]; exact .cons ⟨rfl, h2⟩ ih
theorem FlR.len {vs : List (Str × V)} {fs : Fls} (h : FlR K G vs fs) : vs.length = fs.length := Paired.length h
end
/-! ### attributes -/
section
variable {K : Kx} {ρ ρ' : List Sl} {o o' : Ob} {R : RD} {N B C' : RE} {te tv : TE} {T : TA} {C a dx : Addr} {fs : Fls} {f m : Str}
/-- o.f -/
theorem xe_fldO {d : PyData} (c : Cls K C) (n : NoAttr K C f) (l : fs.lookup f = some d) (h : XE K te ρ o fun dv ρ1 o1 => dv = .raw (.ref a) ∧ o1 = insOb K C a dx fs ∧ R (.d d) ρ1 o1) : XE K (tFld K te f) ρ o R := fun G σ H e Q q =>
  h.seq e fun x dv ρ1 o1 G1 H1 ⟨hd, ho, r⟩ s1 e1 ok1 fr1 => by
    subst hd ho
    have ok1 : x = .ref a := ok1
    subst ok1
    obtain ⟨vs, h1, h2, h3⟩ := e1.wd.ok
    rcases h3.look f with ⟨_, z⟩ | ⟨v, d', z1, z2, rv⟩
    · rw [z] at l; cases l
    · rw [z2] at l
      cases l
      exact ⟨a, C, dx, vs, v, rfl, h1, c, n, z1, q _ _ _ _ _ _ r s1 e1 rv trivial⟩
/-- the heap with the instance changed -/
theorem ins_put {G H : Hp} {σ : L2.St} {v : V} {d : PyData} (e : En K (insOb K C a dx fs) ρ G σ H) {vs : List (Str × V)} (h1 : H a = some (.ins C dx vs)) (h2 : H dx = some (.own a)) (h3 : FlR K G vs fs) (rv : Rp K G v d) :
    Stp ρ σ (insOb K C a dx fs) G H ρ σ (insOb K C a dx (putFD f d fs)) G (upd H a (.ins C dx (putF f v vs))) ∧ En K (insOb K C a dx (putFD f d fs)) ρ G σ (upd H a (.ins C dx (putF f v vs))) := by
  have nd : dx ≠ a := fun z => by rw [z, h1] at h2; cases h2
  have stp : Stp ρ σ (insOb K C a dx fs) G H ρ σ (insOb K C a dx (putFD f d fs)) G (upd H a (.ins C dx (putF f v vs))) :=
    ⟨Sub.refl, fun b x hx h _ => by rw [upd_ne (show b ≠ a from fun z => h (.inl z))]; exact hx, fun _ h _ _ _ => h, fun _ h => .inl h, fun _ h => .inl h⟩
  refine ⟨stp, e.step stp ⟨fun b x hx => ?_, e.wd.nfp, fun b hb => ?_, ⟨_, upd_same, by rw [upd_ne nd]; exact h2, h3.put f rv⟩⟩ fun b hb => ?_⟩
  · rw [upd_ne (show b ≠ a from fun z => by rw [z, e.wd.nfp a (.inl rfl)] at hx; cases hx)]; exact e.wd.sub _ _ hx
  · by_cases z : b = a
    · subst z; exact ⟨_, upd_same⟩
    · rw [upd_ne z]; exact e.wd.occ b hb
  · have n := e.onf b hb
    exact ⟨(e.occ_own hb).1, upd_ne (show b ≠ a from fun z => n (.inl z)), n⟩
/-- o.f = e -/
theorem xs_fldO {fs' : Fls} {d : PyData} (c : Cls K C) (n : NoAttr K C f) (hl : Nat.ble fs.length 900 = true) (h : XEF K tv ρ o fun dv ρ1 o1 => dv = .d d ∧ XE K te ρ1 o1 fun dv2 ρ2 o2 => dv2 = .raw (.ref a) ∧ o2 = insOb K C a dx fs ∧ putFD f d fs = fs' ∧ N ρ2 (insOb K C a dx fs')) : XS K (sFld K te tv f) ρ o N R B C' := fun G σ H e D qn qr qb qc =>
  XE.seq h e fun y dv ρ1 o1 G1 H1 ⟨hd, r1⟩ s1 e1 ok1 fr1 => by
    subst hd
    refine r1.seq e1 fun x dv2 ρ2 o2 G2 H2 ⟨hd2, ho, hp, n2⟩ s2 e2 ok2 fr2 => ?_
    subst hd2 ho hp
    have ok2 : x = .ref a := ok2
    subst ok2
    have ok1 := ok1.step s2 trivial
    obtain ⟨vs, h1, h2, h3⟩ := e2.wd.ok
    have hlen := Nat.ble_eq.mp hl
    obtain ⟨st, en⟩ := ins_put (f := f) e2 h1 h2 h3 ok1
    exact ⟨a, C, dx, vs, rfl, h1, c, n, by rw [h3.len]; omega, qn _ _ _ _ _ n2 ((s1.trans s2).trans st) en⟩
/-- o.f += e, numbers -/
theorem xs_fldAddO {fs' : Fls} {i j : Int} (c : Cls K C) (n : NoAttr K C f) (hl : Nat.ble fs.length 900 = true) (l : fs.lookup f = some (.int i)) (h : XE K te ρ o fun dv ρ1 o1 => dv = .raw (.ref a) ∧ o1 = insOb K C a dx fs ∧
      XE K tv ρ1 o1 fun dv2 ρ2 o2 => dv2 = .d (.int j) ∧ o2 = insOb K C a dx fs ∧ putFD f (.int (i + j)) fs = fs' ∧ N ρ2 (insOb K C a dx fs')) : XS K (sFldAug K te tv rAdd f) ρ o N R B C' := fun G σ H e D qn qr qb qc =>
  h.seq e fun x dv ρ1 o1 G1 H1 ⟨hd, ho, r1⟩ s1 e1 ok1 fr1 => by
    subst hd ho
    have ok1 : x = .ref a := ok1
    subst ok1
    obtain ⟨vs, h1, h2, h3⟩ := e1.wd.ok
    rcases h3.look f with ⟨_, z⟩ | ⟨v, d', z1, z2, rv⟩
    · rw [z] at l; cases l
    · rw [z2] at l
      cases l
      cases rv
      refine ⟨a, C, dx, vs, _, rfl, h1, c, n, z1, r1.seq e1 fun y dv2 ρ2 o2 G2 H2 ⟨hd2, ho2, hp, n2⟩ s2 e2 ok2 fr2 => ?_⟩
      subst hd2 ho2 hp
      cases vok_int ok2
      obtain ⟨vs2, k1, k2, k3⟩ := e2.wd.ok
      have hlen := Nat.ble_eq.mp hl
      obtain ⟨st, en⟩ := ins_put (f := f) e2 k1 k2 k3 (.int (i + j))
      exact ⟨i, j, rfl, rfl, dx, vs2, k1, by rw [k3.len]; omega, qn _ _ _ _ _ n2 ((s1.trans s2).trans st) en⟩
theorem xs_fldSubO {fs' : Fls} {i j : Int} (c : Cls K C) (n : NoAttr K C f) (hl : Nat.ble fs.length 900 = true) (l : fs.lookup f = some (.int i)) (h : XE K te ρ o fun dv ρ1 o1 => dv = .raw (.ref a) ∧ o1 = insOb K C a dx fs ∧
      XE K tv ρ1 o1 fun dv2 ρ2 o2 => dv2 = .d (.int j) ∧ o2 = insOb K C a dx fs ∧ putFD f (.int (i - j)) fs = fs' ∧ N ρ2 (insOb K C a dx fs')) : XS K (sFldAug K te tv rSub f) ρ o N R B C' := fun G σ H e D qn qr qb qc =>
  h.seq e fun x dv ρ1 o1 G1 H1 ⟨hd, ho, r1⟩ s1 e1 ok1 fr1 => by
    subst hd ho
    have ok1 : x = .ref a := ok1
    subst ok1
    obtain ⟨vs, h1, h2, h3⟩ := e1.wd.ok
    rcases h3.look f with ⟨_, z⟩ | ⟨v, d', z1, z2, rv⟩
    · rw [z] at l; cases l
    · rw [z2] at l
      cases l
      cases rv
      refine ⟨a, C, dx, vs, _, rfl, h1, c, n, z1, r1.seq e1 fun y dv2 ρ2 o2 G2 H2 ⟨hd2, ho2, hp, n2⟩ s2 e2 ok2 fr2 => ?_⟩
      subst hd2 ho2 hp
      cases vok_int ok2
      obtain ⟨vs2, k1, k2, k3⟩ := e2.wd.ok
      have hlen := Nat.ble_eq.mp hl
      obtain ⟨st, en⟩ := ins_put (f := f) e2 k1 k2 k3 (.int (i - j))
      exact ⟨i, j, rfl, rfl, dx, vs2, k1, by rw [k3.len]; omega, qn _ _ _ _ _ n2 ((s1.trans s2).trans st) en⟩
/-! ### methods -/
/-- o.m(..), the object at a is an instance; the rest of the objects stands beside -/
theorem xe_methO {S : DS} {E : XK} (lm : fs.lookup m = none) (h : XE K te ρ o fun dv ρ1 o1 => dv = .raw (.ref a) ∧ o1 = insOb K C a dx fs ∧ XAF K T ρ1 o1 fun dvs ρ2 o2 => S (.raw (.ref a) :: dvs) o2 (fun dv o3 => R dv ρ2 o3) (fun _ _ => False)) :
    XE K (tMeth C m (spD K S) [] E te T) ρ o R := fun G σ H e Q q =>
  h.seq e fun x dv ρ1 o1 G1 H1 ⟨hd, ho, r1⟩ s1 e1 ok1 fr1 => by
    subst hd ho
    have ok1 : x = .ref a := ok1
    subst ok1
    obtain ⟨vs, h1, h2, h3⟩ := e1.wd.ok
    have hm : vs.lookup m = none := by
      rcases h3.look m with ⟨z, _⟩ | ⟨v, d', _, z2, _⟩
      · exact z
      · rw [z2] at lm; cases lm
    refine ⟨a, dx, vs, rfl, h1, hm, r1 G1 σ H1 e1 _ fun us dvs ρ2 o2 G2 H2 ⟨hd, r⟩ s2 e2 ok => ?_⟩
    show spD K S (.ref a :: (us ++ [])) H2 Q E
    rw [List.append_nil]
    exact call_run q (fun d hd' => (List.mem_cons.mp hd').elim (fun z => .inr ⟨_, z⟩) (hd d)) r (fun _ _ _ _ _ _ z => z.elim) (s1.trans s2) e2 (.cons rfl ok)
end
/-! ### methods that may raise -/
def tMethW (C : Addr) (m : Str) (sp : Sp) (E : L2.St → XK) (ta : TE) (t : TA) : TE := fun σ H Q => ta σ H fun x H1 => ∃ a dx fs, x = .ref a ∧ H1 a = some (.ins C dx fs) ∧ fs.lookup m = none ∧ t σ H1 fun vs H2 => sp (x :: vs) H2 Q (E σ)
section
variable {X : Cx} {CX : CXT} {k : Nat} {f C : Addr} {fd : FuncData} {ps : List Str} {sp : Sp} {E : L2.St → XK} {m : Str} {pos apos : Pos} {e o : Expr} {es : List Expr} {ta : TE} {t : TA}
theorem pe_methW {pl : Sem Bool} (he : PE X o ta) (c : Cls X.K C) (hm : Meth X.K C m f) (F1 : FnOk X.prog X.w X.K X.mg X.base CX k f fd ps sp) (hr : Room k X.A) (hb : Binds X.K fd ps []) (hx : ∀ σ, PassesAt CX X σ (E σ)) (ha : PA X (e :: es) t)
    (hst : starEach (e :: es) X.env = (false, eval e X.env) :: starEach es X.env := by rfl) (hpl : (backTo pos (starEach es X.env)).any (·.1) = false := by rfl)
    (ht : eval (.Call (.Attribute o m apos) (e :: es) [] pos) X.env = (do
      let w ← eval o X.env
      standAt apos.atName
      let (g, own) ← holding [w] (getMethod w m pl)
      callWith pos g own (backTo pos (starEach (e :: es) X.env)) (backToKw pos (keywordEach [] X.env))) := by rfl) :
    PE X (.Call (.Attribute o m apos) (e :: es) [] pos) (tMethW C m sp E ta t) := by
  refine ⟨fun pins s σ H Q I h => PySem.W.methodCall_KW (pl := pl) (thn (he.run pins s σ H _ I h) fun u s1 ⟨x, H1, I1, rx, a, dx, fs, ex, ea, l, q⟩ => ?_) ht⟩
  subst ex
  obtain rfl : u = Value.ref a := rx
  exact getmeth_ok I1 ea c hm l (PySem.W.callWith_K (first := [.ref a]) (h₀ := X.base) I.ok.mod.kin hm.kp (thn (ha.run pos pins s1 σ H1 _ I1 q) fun us s2 ⟨vs, H2, I2, r, q2⟩ => ⟨I2.kIn, run_fnS (us := .ref a :: us) (vs := .ref a :: vs) F1 hr hb (hx σ) I2 (.cons rfl r) q2⟩) hst hpl)
theorem pe_methW0 {pl : Sem Bool} (he : PE X o ta) (c : Cls X.K C) (hm : Meth X.K C m f) (F1 : FnOk X.prog X.w X.K X.mg X.base CX k f fd ps sp) (hr : Room k X.A) (hb : Binds X.K fd ps []) (hx : ∀ σ, PassesAt CX X σ (E σ))
    (ht : eval (.Call (.Attribute o m apos) [] [] pos) X.env = (do
      let w ← eval o X.env
      standAt apos.atName
      let (g, own) ← holding [w] (getMethod w m pl)
      callWith pos g own (backTo pos (starEach [] X.env)) (backToKw pos (keywordEach [] X.env))) := by rfl) :
    PE X (.Call (.Attribute o m apos) [] [] pos) (tMethW C m sp E ta tNil) := by
  refine ⟨fun pins s σ H Q I h => PySem.W.methodCall_KW (pl := pl) (thn (he.run pins s σ H _ I h) fun u s1 ⟨x, H1, I1, rx, a, dx, fs, ex, ea, l, q⟩ => ?_) ht⟩
  subst ex
  obtain rfl : u = Value.ref a := rx
  exact getmeth_ok I1 ea c hm l (PySem.W.callWith_K0 (first := [.ref a]) I1.kIn hm.kp (run_fnS (us := [.ref a]) (vs := [.ref a]) F1 hr hb (hx σ) I1 (.cons rfl .nil) q))
end
section
variable {K : Kx} {ρ : List Sl} {o : Ob} {R : RD} {te : TE} {T : TA} {C a dx : Addr} {fs : Fls} {m : Str}
theorem xe_methW {S : DS} (lm : fs.lookup m = none) (h : XE K te ρ o fun dv ρ1 o1 => dv = .raw (.ref a) ∧ o1 = insOb K C a dx fs ∧ XAF K T ρ1 o1 fun dvs ρ2 o2 => S (.raw (.ref a) :: dvs) o2 (fun dv o3 => R dv ρ2 o3) (fun ex o3 => K.Z ex ρ2 o3)) :
    XE K (tMethW C m (spD K S) (WE K.W) te T) ρ o R := fun G σ H e Q q =>
  h.seq e fun x dv ρ1 o1 G1 H1 ⟨hd, ho, r1⟩ s1 e1 ok1 fr1 => by
    subst hd ho
    have ok1 : x = .ref a := ok1
    subst ok1
    obtain ⟨vs, h1, h2, h3⟩ := e1.wd.ok
    have hm : vs.lookup m = none := by
      rcases h3.look m with ⟨z, _⟩ | ⟨v, d', _, z2, _⟩
      · exact z
      · rw [z2] at lm; cases lm
    refine ⟨a, dx, vs, rfl, h1, hm, r1 G1 σ H1 e1 _ fun us dvs ρ2 o2 G2 H2 ⟨hd, r⟩ s2 e2 ok => ?_⟩
    exact call_run q (fun d hd' => (List.mem_cons.mp hd').elim (fun z => .inr ⟨_, z⟩) (hd d)) r (fun cls fs d o3 G3 H3 z s3 e3 ek => e2.wo cls fs d ρ2 o3 G3 σ H3 z s3 e3 ek) (s1.trans s2) e2 (.cons rfl ok)
/-! ### a new instance -/
/-- plain values and references do not look at heaps -/
theorem VAll.moveOb {K : PySem.W.Frag} {o1 o2 : Ob} {ρ : List Sl} {G : Hp} {σ : L2.St} {H H2 : Hp} {vs : List V} {dvs : List DV} (a : VAll K o1 ρ G σ H vs dvs) (h : ∀ d ∈ dvs, (∃ x, d = .d x) ∨ ∃ v, d = .raw v) : VAll K o2 ρ G σ H2 vs dvs := by
  induction a with
  | nil => exact .nil
  | cons h1 _ ih =>
    refine .cons ?_ (ih fun d hd => h d (List.mem_cons_of_mem _ hd))
    rcases h _ List.mem_cons_self with ⟨x, rfl⟩ | ⟨v, rfl⟩
    · exact h1
    · exact h1
theorem xe_makeO {S : DS} {E : XK} (hW : K.W = fun cls d _ H => E cls d H) (h : XAF K T ρ o fun dvs ρ1 o1 => ∀ x dx, S (.raw (.ref x) :: dvs) (insOb K C x dx []) (fun dv o2 => dv = .d .none ∧ R (.raw (.ref x)) ρ1 (o2.and o1)) (fun ex o2 => K.Z ex ρ1 (o2.and o1))) :
    XE K (tMake C (spD K S) [] E T) ρ o R := fun G σ H e Q q =>
  h G σ H e _ fun vs dvs ρ1 o1 G1 H1 ⟨hd, r⟩ s1 e1 ok => by
    intro x dx hx hdx ne
    have hxx : upd (upd H1 dx (.own x)) x (.ins C dx []) x = some (.ins C dx []) := upd_same
    have hdd : upd (upd H1 dx (.own x)) x (.ins C dx []) dx = some (.own x) := by rw [upd_ne ne, upd_same]
    have hoth : ∀ b y, H1 b = some y → upd (upd H1 dx (.own x)) x (.ins C dx []) b = some y := fun b y hb => by
      rw [upd_ne (show b ≠ x from fun z => by rw [z, hx] at hb; cases hb), upd_ne (show b ≠ dx from fun z => by rw [z, hdx] at hb; cases hb)]; exact hb
    have gx := e1.wd.gnone hx
    have gd := e1.wd.gnone hdx
    have nfx := nofp e1 hx
    have nfd := nofp e1 hdx
    have nox := noown e1 hx
    have nod := noown e1 hdx
    have stp : Stp ρ1 σ o1 G1 H1 ρ1 σ ((insOb K C x dx []).and o1) G1 (upd (upd H1 dx (.own x)) x (.ins C dx [])) :=
      ⟨Sub.refl, fun b y hb _ _ => hoth b y hb, fun _ h _ _ _ => h, fun b hb => hb.elim (fun hb => hb.elim (fun z => .inr (.inl (by rw [z]; exact hx))) fun z => .inr (.inl (by rw [z]; exact hdx))) .inl, fun _ h => .inl h⟩
    have en : En K ((insOb K C x dx []).and o1) ρ1 G1 σ (upd (upd H1 dx (.own x)) x (.ins C dx [])) := by
      refine e1.step stp ⟨fun b y hb => hoth b y (e1.wd.sub b y hb), fun b hb => ?_, fun b hb => ?_, ⟨⟨[], hxx, hdd, .nil⟩, ?_, ?_⟩⟩ fun b hb => ?_
      · rcases hb with (hb | hb) | hb
        · rw [hb]; exact gx
        · rw [hb]; exact gd
        · exact e1.wd.nfp b hb
      · rcases hb with (hb | hb) | hb
        · rw [hb]; exact ⟨_, hxx⟩
        · rw [hb]; exact ⟨_, hdd⟩
        · obtain ⟨y, hy⟩ := e1.wd.occ b hb; exact ⟨y, hoth b y hy⟩
      · exact o1.st _ _ _ _ e1.wd.ok Sub.refl fun b hb => by
          obtain ⟨y, hy⟩ := e1.wd.occ b hb
          rw [hoth b y hy, hy]
      · intro b hb hF
        rcases hb with hb | hb
        · rw [hb] at hF; exact nfx hF
        · rw [hb] at hF; exact nfd hF
      · obtain ⟨g, y, hy⟩ := e1.occ_own hb
        refine ⟨g, by rw [hoth b y hy, hy], fun z => ?_⟩
        rcases z with (z | z) | z
        · rw [z] at hb; exact nox hb
        · rw [z] at hb; exact nod hb
        · exact e1.onf b hb z
    have s12 := s1.trans stp
    show spD K S (.ref x :: (vs ++ [])) _ _ E
    rw [List.append_nil]
    have enp := en.part
    have okp : VAll K (insOb K C x dx []) ρ1 G1 σ (upd (upd H1 dx (.own x)) x (.ins C dx [])) vs dvs := ok.moveOb hd
    refine call_run (K := K.fr o1) (ρ := ρ1) (o := insOb K C x dx []) (G := G1) (σ := σ) (H := upd (upd H1 dx (.own x)) x (.ins C dx [])) (R := fun dv ρ2 o2 => dv = .d .none ∧ R (.raw (.ref x)) ρ2 (o2.and o1)) ?_ (fun d hd' => (List.mem_cons.mp hd').elim (fun z => .inr ⟨_, z⟩) (hd d)) (r x dx) (fun cls fs d o3 G3 H3 z s3 e3 ek => ?_) Stp.refl enp (.cons rfl okp)
    · intro v dv ρ2 o2 G2 H2 ⟨hdv, r2⟩ s2 e2 ok2 fr2
      subst hdv
      refine ⟨vok_non ok2, q _ _ _ _ _ _ r2 (s12.trans (Stp.whole en.toEnB s2)) (en.whole s2 e2) rfl trivial⟩
    · have := enp.wo cls fs d ρ1 o3 G3 σ H3 z s3 e3 ek
      rw [show (K.fr o1).W = K.W from rfl, hW] at this
      exact this
end
end DL

set_option Elab.async false
set_option linter.all false
set_option maxRecDepth 100000
set_option maxHeartbeats 1000000
namespace DL
open PySem PySem.Spec PyProof.Rows L2 TL HotX L2H
/-! ### a list's end while an exception is handled -/
theorem list_end_hot {prog : Program} {w : World} {A : Around} {E : Value → Shared → Prop} {s : Shared} {it l x1 : Addr} {i : Nat} {xs : Array Value} {Q : Option Value → Shared → Prop} (hot : HotAt A x1 s.heap) (q : s.heap.IsListIter it l i) (hl : s.heap.IsList l xs) (hx : xs[i]? = none) (n1 : it ≠ x1)
    (go : ∀ h2, Heap.ExtBut it s.heap h2 → Q none { s with heap := h2 }) : wpAny (model prog w) A (pyNext (.ref it)) Q E s := by
  obtain ⟨hh, ox, vx, gx, dx, cx⟩ := hot
  obtain ⟨o, ho, hc, hd⟩ := id q
  obtain ⟨ol, hol, _, nl, hdl⟩ := hl
  unfold pyNext
  apply wpAny_bind; apply wpAny_attempt
  refine wpAny_callSpecial?_slot (name := Str.ofString "__next__") q.typeIs slot_listiter_next (wpAny_call_entry slot_listiter_next q.typeIs entry_listiter_next ?_ (args_listiter_next _))
  show wpAny _ _ (field (.ref it) 0 >>= _) _ _ s
  apply wpAny_bind; refine wpAny_field ho hd (x := .ref l) rfl ?_
  show wpAny _ _ (if (Value.ref l == Value.none) = true then _ else _) _ _ s
  rw [if_neg (show ¬ ((Value.ref l == Value.none) = true) from Bool.false_ne_true)]
  show wpAny _ _ (field (.ref it) 1 >>= _) _ _ s
  apply wpAny_bind; refine wpAny_field ho hd (x := .int i 0) rfl ?_
  show wpAny _ _ (seqItems? (.ref l) >>= _) _ _ s
  apply wpAny_bind; refine wpAny_seqItems hol hdl ?_
  simp only [Int.toNat_natCast, hx]
  apply wpAny_bind; refine wpAny_rule ?_
  apply wpAny_bind; refine wpAny_setField ho hd (by simp) ?_
  show wpAny _ _ (newExc (.type "StopIteration") [] >>= _) _ _ _
  apply wpAny_bind
  simp only [newExc, newTuple]
  apply wpAny_bind; refine wpAny_newObj_type ?_ (by size_fits)
  refine wpAny_bind (m := firstArgMember _ _) (wpAny_of_eq (a := Value.none) (by first | rfl | (simp only [firstArgMember]; rfl)) ?_)
  refine wpAny_newObj_type ?_ (by size_fits)
  have sb := Heap.SameBut.update (h := s.heap) (a := it) (f := Obj.mapFields (·.setIfInBounds 0 .none))
  have gx2 := (sb.2 x1 n1.symm).trans gx
  have gx3 := Heap.get?_push_of_some { cls := .type "tuple", data := .seq #[] } gx2
  refine raiseNew_hot ⟨hh, ox, vx, Heap.get?_push_of_some _ gx3, dx, cx⟩ (Nat.ne_of_lt (Heap.lt_size gx3)) (Heap.get?_push_size _ rfl) rfl (by first | (simp; done) | (simp; omega) | (simp only [Array.size_append]; simp; omega)) ?_
  apply wpAny_bind
  refine wpAny_isInstance (T := "StopIteration") (b := true) ⟨_, Heap.get?_update_self _ (Heap.get?_push_size _ rfl) rfl, rfl⟩ isSubtype_stop ?_
  refine wpAny_pure (go _ fun b o n e => ?_)
  have e2 := Heap.get?_push_of_some { cls := .type "tuple", data := .seq #[] } ((sb.2 b n).trans e)
  rw [Heap.get?_update_other _ _ (Nat.ne_of_gt (Heap.lt_size e2))]
  exact Heap.get?_push_of_some _ e2
theorem tup_end_hot {prog : Program} {w : World} {A : Around} {E : Value → Shared → Prop} {s : Shared} {it l x1 : Addr} {i : Nat} {xs : Array Value} {Q : Option Value → Shared → Prop} (hot : HotAt A x1 s.heap) (q : IsTupIter s.heap it l i) (hl : IsTup s.heap l xs) (hx : xs[i]? = none) (n1 : it ≠ x1)
    (go : ∀ h2, Heap.ExtBut it s.heap h2 → Q none { s with heap := h2 }) : wpAny (model prog w) A (pyNext (.ref it)) Q E s := by
  obtain ⟨hh, ox, vx, gx, dx, cx⟩ := hot
  obtain ⟨o, ho, hc, hd⟩ := id q
  obtain ⟨ol, hol, _, nl, hdl⟩ := hl
  unfold pyNext
  apply wpAny_bind; apply wpAny_attempt
  refine wpAny_callSpecial?_slot (name := Str.ofString "__next__") q.typeIs slot_tupleiter_next (wpAny_call_entry slot_tupleiter_next q.typeIs entry_tupleiter_next ?_ (args_tupleiter_next _))
  show wpAny _ _ (field (.ref it) 0 >>= _) _ _ s
  apply wpAny_bind; refine wpAny_field ho hd (x := .ref l) rfl ?_
  show wpAny _ _ (if (Value.ref l == Value.none) = true then _ else _) _ _ s
  rw [if_neg (show ¬ ((Value.ref l == Value.none) = true) from Bool.false_ne_true)]
  show wpAny _ _ (field (.ref it) 1 >>= _) _ _ s
  apply wpAny_bind; refine wpAny_field ho hd (x := .int i 0) rfl ?_
  show wpAny _ _ (seqItems? (.ref l) >>= _) _ _ s
  apply wpAny_bind; refine wpAny_seqItems hol hdl ?_
  simp only [Int.toNat_natCast, hx]
  apply wpAny_bind; refine wpAny_rule ?_
  apply wpAny_bind; refine wpAny_setField ho hd (by simp) ?_
  show wpAny _ _ (newExc (.type "StopIteration") [] >>= _) _ _ _
  apply wpAny_bind
  simp only [newExc, newTuple]
  apply wpAny_bind; refine wpAny_newObj_type ?_ (by size_fits)
  refine wpAny_bind (m := firstArgMember _ _) (wpAny_of_eq (a := Value.none) (by first | rfl | (simp only [firstArgMember]; rfl)) ?_)
  refine wpAny_newObj_type ?_ (by size_fits)
  have sb := Heap.SameBut.update (h := s.heap) (a := it) (f := Obj.mapFields (·.setIfInBounds 0 .none))
  have gx2 := (sb.2 x1 n1.symm).trans gx
  have gx3 := Heap.get?_push_of_some { cls := .type "tuple", data := .seq #[] } gx2
  refine raiseNew_hot ⟨hh, ox, vx, Heap.get?_push_of_some _ gx3, dx, cx⟩ (Nat.ne_of_lt (Heap.lt_size gx3)) (Heap.get?_push_size _ rfl) rfl (by first | (simp; done) | (simp; omega) | (simp only [Array.size_append]; simp; omega)) ?_
  apply wpAny_bind
  refine wpAny_isInstance (T := "StopIteration") (b := true) ⟨_, Heap.get?_update_self _ (Heap.get?_push_size _ rfl) rfl, rfl⟩ isSubtype_stop ?_
  refine wpAny_pure (go _ fun b o n e => ?_)
  have e2 := Heap.get?_push_of_some { cls := .type "tuple", data := .seq #[] } ((sb.2 b n).trans e)
  rw [Heap.get?_update_other _ _ (Nat.ne_of_gt (Heap.lt_size e2))]
  exact Heap.get?_push_of_some _ e2
theorem unpack_hot {prog : Program} {w : World} {A : Around} {E : Value → Shared → Prop} {s : Shared} {t x1 : Addr} {items : Array Value} {Q : List Value → Shared → Prop} (hot : HotAt A x1 s.heap) (ht : IsTup s.heap t items)
    (go : ∀ h2, Heap.ExtBut s.heap.objs.size s.heap h2 → Q items.toList { s with heap := h2 }) : wpAny (model prog w) A (unpackItems (.ref t) items.size none) Q E s := by
  obtain ⟨hh, ox, vx, gx, dx, cx⟩ := hot
  have ne : t ≠ s.heap.objs.size := by obtain ⟨o, ho, _⟩ := ht; exact Nat.ne_of_lt (Heap.lt_size ho)
  have nx : s.heap.objs.size ≠ x1 := (Nat.ne_of_lt (Heap.lt_size gx)).symm
  unfold unpackItems
  apply wpAny_bind
  unfold notIterableAtAll
  apply wpAny_bind; refine wpAny_specialOf ht.typeIs slot_tuple_iter.lookup ?_
  apply wpAny_pure
  simp only [Bool.false_eq_true, if_false]
  apply wpAny_bind; apply wpAny_holding; refine iter_tuple ht ?_
  apply wpAny_bind; apply wpAny_holding
  refine draw_tuple ne items.size 0 _ _ ⟨_, Heap.get?_push_size _ rfl, rfl, rfl⟩ (ht.push _) (by omega) fun g1 i1 s1 => ?_
  have all : List.take items.size (List.drop 0 items.toList) = items.toList := by
    rw [List.drop_zero]; exact List.take_of_length_le (by simp)
  rw [all, if_neg (by simp)]
  have t1 : IsTup g1 t items := (ht.push _).extBut s1.extBut ne
  have gx1 : g1.get? x1 = some ox := s1.extBut _ _ nx.symm (Heap.get?_push_of_some _ gx)
  apply wpAny_bind; apply wpAny_holding
  refine tup_end_hot ⟨hh, ox, vx, gx1, dx, cx⟩ i1 t1 (by simp) nx fun g2 e2 => ?_
  simp only [Option.isSome_none, Bool.false_eq_true, if_false]
  exact wpAny_pure (go g2 fun b o n e => e2 b o n (s1.extBut b o n (Heap.get?_push_of_some _ e)))
theorem pg_tupH {X : Cx} {K : PySem.W.Frag} {es : List Expr} {k : Nat} {t : TGs} {n : Nat} {pos : Pos} (hK : X.K = K) (hc : HotC X) (h : PGs X es t)
    (hn : (assignEach es X.env).length = n := by rfl) (hst : (assignEach es X.env).findIdx? (·.1) = none := by rfl) : PG X (.Tuple es k pos) (gTup K n t) := by
  subst hK
  constructor
  intro pins s σ H v u Q J r ⟨a, xs, e1, hq, hl, q⟩
  subst e1
  cases r
  obtain ⟨its, rv, ht, hz⟩ := J.tuple hq
  obtain ⟨x1, hot⟩ := hc.at J
  rw [arm_assign_Tuple]
  apply wpAny_bind; apply wpAny_standAt
  unfold unpack
  rw [show (assignEach es X.env).length = its.toArray.size by simp [hn, ← hl, rv.length], hst]
  apply wpAny_bind; apply wpAny_holding
  refine unpack_hot hot ht fun h2 hx => ?_
  have J1 : Inv X pins σ H { s with heap := h2 } := J.kept (t' := s.toks) fun b o e => hx b o (Nat.ne_of_lt (Heap.lt_size e)) e
  exact h.run pins _ σ H xs _ Q J1 (by simpa using rv) q
theorem turn_listH {P : Program} {w : World} {K : PySem.W.Frag} {tg : Expr} (a it : Addr) : TurnH P w K tg (Itl K a) [it] it (fun i h => h.IsListIter it a i) where
  mem := by simp
  obj := fun i h st b hb => by
    obtain rfl : b = it := by simpa using hb
    obtain ⟨o, e, c, d⟩ := st
    exact ⟨o, e, fun v z => by rw [d] at z; cases z⟩
  keep := fun i h h2 st kp => st.at fun o e => kp it (by simp) o e
  item := by
    intro X eP ew eK hc i pins s σ H E J fp st ⟨xs, x, hq, hx⟩
    subst eP ew eK
    obtain ⟨its, rv, p, hz⟩ := J.list hq
    obtain ⟨u, hu, ru⟩ := rv.get hx
    obtain ⟨f0, f1, f2, f3, f4, f5⟩ := fp it (by simp)
    refine wpAny_pyNext_list_item st p.isList (x := u) (by simpa using hu) fun h2 st2 sb => ?_
    have J1 : Inv X pins σ H { s with heap := h2 } := J.turned (t' := s.toks) (fun b o n e => (sb.2 b n).trans e) f0 f1 f3 f4 f5
    obtain ⟨o, e, c, d⟩ := id st2
    exact ⟨u, rfl, go_of (s := { s with heap := h2 }) e c d (by decide) ⟨x, H, J1, ru, ⟨rfl, fun ys hy => by rw [J.list_inj hy hq]; exact hx⟩, st2, fun b hb => (fp b hb).1⟩⟩
  done := by
    intro X eP ew eK hc i pins s σ H E J fp st ⟨xs, hq, hx⟩
    subst eP ew eK
    obtain ⟨its, rv, p, hz⟩ := J.list hq
    obtain ⟨f0, f1, f2, f3, f4, f5⟩ := fp it (by simp)
    have hl := rv.length
    obtain ⟨⟨x1, ox⟩, ⟨hh, v1, e1, c1⟩, hp⟩ := hc
    have P1 := J.pin (x1, ox) (List.mem_append_left _ hp)
    have n1 : it ≠ x1 := fun z => by
      have e1 : ox.data = .fields v1 := e1
      have c1 : v1[2]? = some .none := c1
      obtain ⟨o, e, c, d⟩ := st
      have g1 : s.heap.get? x1 = some ox := P1.1
      rw [← z, e] at g1
      cases g1
      rw [d] at e1
      cases e1
      simp at c1
    exact list_end_hot ⟨hh, ox, v1, P1.1, e1, c1⟩ st p.isList (by simp; omega) n1 fun h2 eb => ⟨rfl, J.turned (t' := s.toks) (fun b o n e => eb b o n e) f0 f1 f3 f4 f5⟩
  self := fun _ _ _ _ _ st q => wpAny_pyIter_listiter st q
theorem pi_listH {X : Cx} {K : PySem.W.Frag} {tg l : Expr} {tl : TE} (hK : X.K = K) (hl : PE X l tl) : PIH X tg l (iList K tl) := by
  subst hK
  constructor
  intro pins s σ H R J q
  refine thn (hl.run pins s σ H _ J q) fun v s1 ⟨x, H1, J1, r1, a, e, ⟨xs, hq⟩, q1⟩ => ?_
  subst e
  cases r1
  obtain ⟨its, rv, p, hz⟩ := J1.list hq
  refine wpAny_pyIter_list p.isList ⟨s1.heap.objs.size, [s1.heap.objs.size], _, _, H1, rfl, J1.kept (t' := s1.toks) fun b o e => Heap.get?_push_of_some _ e, turn_listH a _, ⟨_, Heap.get?_push_size _ rfl, rfl, rfl⟩, fun b hb => ?_, q1⟩
  obtain rfl : b = s1.heap.objs.size := by simpa using hb
  exact J1.fpOk (Nat.le_refl _) (J1.hok.fresh (Nat.le_refl _))
/-! ### rows that are not reached -/
theorem ps_dead {X : Cx} {st : Stmt} : PS X st (fun _ _ _ => False) := ⟨fun _ _ _ _ _ _ z => z.elim⟩
/-! ### raise, try .. except, where the context of what is raised is known -/
section
variable {X : Cx} {K : PySem.W.Frag} {x n : Str} {c : Value} {i : Nat} {body suite : List Stmt} {b₀ : Stmt} {np pos pos' : Pos} {tb : WX → TS} {ts : Addr → Value → Option Addr → TS} {Wout : WX}
theorem ps_raiseCN {W : WX} {e : Expr} {C : Addr} (hc : X.calm = true) (tk : L2N.Takes X W) (he : L2N.PMk X e (fun _ H Q => Q (.ref C) none H)) : PS X (.Raise (some e) none pos) (tRaiseC C W) := L2N.ps_raise hc tk he
theorem takes0N : L2N.Takes X (fun _ _ _ _ => False) := fun _ _ q => by
  obtain ⟨_, _, _, _, _, _, _, _, _, _, _, _, _, _, _, _, z⟩ := q
  exact z.elim
theorem passAN {σ : L2.St} : PassesAt (L2N.CX X.prog X.w) X σ (WE (fun _ _ _ _ => False) σ) := fun _ _ _ _ _ _ h => by
  obtain ⟨_, _, _, _, _, _, _, _, _, _, _, _, z⟩ := h
  exact z.elim
theorem ps_tryAsN (hK : X.K = K) (hs : X.stack = X.env :: X.outer) (hf : X.env.frame = some X.env.locals) (hN : X.N.Nodup) (hi : X.N[i]? = some n) (hln : X.env.kindOf n = some .local) (hc : Names X x c) (tk : L2N.Takes X Wout)
    (hb : ∀ (W : WX) (pn : List (Addr × Obj)) (xe : Value → Shared → Prop), L2N.Takes (X.tr pn xe) W → PassesOwn (model X.prog X.w) X.A X.env xe → PSs (X.tr pn xe) body (tb W))
    (hsu : ∀ (a : Addr) (oe : Obj) (cls : Value) (d : Option Addr) (pn : List (Addr × Obj)), L2N.Zn cls d oe → (∃ vs, oe.data = .fields vs) → PSs (X.suite a ((a, oe) :: pn)) (b₀ :: suite) (ts a cls d)) :
    PS X (.Try body [.ExceptHandler (some (.Name x np)) (some n) (b₀ :: suite) pos'] [] [] pos) (tTryAs K c i tb ts Wout) := by
  subst hK
  exact L2N.ps_try_as hs hf hN hi hln hc tk hb hsu
theorem ps_tryOnlyN (hK : X.K = K) (hs : X.stack = X.env :: X.outer) (hf : X.env.frame = some X.env.locals) (hc : Names X x c) (tk : L2N.Takes X Wout)
    (hb : ∀ (W : WX) (pn : List (Addr × Obj)) (xe : Value → Shared → Prop), L2N.Takes (X.tr pn xe) W → PassesOwn (model X.prog X.w) X.A X.env xe → PSs (X.tr pn xe) body (tb W))
    (hsu : ∀ (a : Addr) (oe : Obj) (cls : Value) (d : Option Addr) (pn : List (Addr × Obj)), L2N.Zn cls d oe → (∃ vs, oe.data = .fields vs) → PSs (X.suite a ((a, oe) :: pn)) (b₀ :: suite) (ts a cls d)) :
    PS X (.Try body [.ExceptHandler (some (.Name x np)) none (b₀ :: suite) pos'] [] [] pos) (tTryOnly K c tb ts Wout) := by
  subst hK
  exact L2N.ps_try_many hs hf tk hb (.cons hc hsu .nil)
end
/-! ### defs that are called there -/
theorem hot_suite {a : Addr} {oe : Obj} {cls : Value} {d : Option Addr} {pn : List (Addr × Obj)} {X : Cx} (hz : L2N.Zn cls d oe) (hf : ∃ vs, oe.data = .fields vs) : HotC (X.suite a ((a, oe) :: pn)) := by
  obtain ⟨vs, hv⟩ := hf
  exact ⟨(a, oe), ⟨rfl, vs, hv, hz.2.2 vs hv⟩, List.mem_cons_self⟩
theorem roomH_suite {k : Nat} {A : Around} {v : Option Value} (r : Room k A) : RoomH k (A.mark v) := ⟨r.dp, r.un⟩
section
variable {P : Program} {w : World} {K : PySem.W.Frag} {mg : Str → Option Value} {base : Heap}
theorem fnDH {x qual : Str} {st : Stmt} {f : Addr} {fd : FuncData} {N ps : List Str} {k : Nat} {S : DS} (F : Fun K x qual st f fd) (Sc : FnScope N ps (defScope st))
    (len : ∀ dvs o R X, S dvs o R X → dvs.length = ps.length)
    (hb : ∀ (cdv : Value) (A : Around) (outer : List Env) (s : Shared) (H : Hp) (E : XK) (p : Addr × Obj), Hot1 A p → RoomH k (A.deeper (envOfC qual (defScope st) s.heap.objs.size f cdv)) →
      ∃ t, PSs (cxH CX0 P w K mg base N qual (defScope st) f cdv A outer s H E p).nox (defBody st) t ∧ ∀ dvs o R X, S dvs o R X → XS (KN K) t (startD N.length dvs) o (fun _ o' => R (.d .none) o') (OutR R) (fun _ _ => False) (fun _ _ => False)) :
    FnH P w K mg base CX0 (k + 1) f fd ps (spD K S) := by
  obtain ⟨oc, od, kV, doc, pm, an, cdv, ct, osl, rfl, lk, hcd⟩ := F.ex
  refine fn_ofH lk hcd Sc (fun vs H Q E ⟨G, o, dvs, R, X, _, a, h, _⟩ => by rw [a.len]; exact len dvs o R X h) fun A outer s H vs Q E p hot hr ⟨G, o, dvs, R, X, wd, a, h, q, _⟩ => ?_
  obtain ⟨t, ht, hx⟩ := hb cdv A outer s H E p hot hr
  exact ⟨t, ht.nox, out_run (K := KN K) wd a q wo_none (hx dvs o R X h)⟩
/-- a def that may raise -/
theorem fnDXN {x qual : Str} {st : Stmt} {f : Addr} {fd : FuncData} {N ps : List Str} {k : Nat} {S : DS} (F : Fun K x qual st f fd) (Sc : FnScope N ps (defScope st))
    (len : ∀ dvs o R X, S dvs o R X → dvs.length = ps.length)
    (hb : ∀ (cdv : Value) (A : Around) (outer : List Env) (s : Shared) (H : Hp) (E : XK), Room k (A.deeper (envOfC qual (defScope st) s.heap.objs.size f cdv)) →
      ∃ t, PSs (cxOf (L2N.CX P w) P w K mg base N qual (defScope st) f cdv A outer s H E) (defBody st) t ∧ ∀ dvs o R X, S dvs o R X → XS ⟨K, fun cls d _ H => E cls d H, fun ex _ o' => X ex o'⟩ t (startD N.length dvs) o (fun _ o' => R (.d .none) o') (OutR R) (fun _ _ => False) (fun _ _ => False)) :
    FnOk P w K mg base (L2N.CX P w) (k + 1) f fd ps (spD K S) := by
  obtain ⟨oc, od, kV, doc, pm, an, cdv, ct, osl, rfl, lk, hcd⟩ := F.ex
  refine fn_of lk hcd Sc (fun vs H Q E ⟨G, o, dvs, R, X, _, a, h, _⟩ => by rw [a.len]; exact len dvs o R X h) fun A outer s H vs Q E hr ⟨G, o, dvs, R, X, wd, a, h, q, qx⟩ => ?_
  obtain ⟨t, ht, hx⟩ := hb cdv A outer s H E hr
  exact ⟨t, ht, out_run (K := ⟨K, fun cls d _ H => E cls d H, fun ex _ o' => X ex o'⟩) wd a q (fun cls fs d ρ' o' G' σ' H' z s e ok => qx cls fs d o' G' H' z (s.bare fun _ => noOwnS) e.wd ok) (hx dvs o R X h)⟩
theorem hot_cx {CX : CXT} {N : List Str} {qual : Str} {scope : Scope} {f : Addr} {cd : Value} {A : Around} {outer : List Env} {s : Shared} {H : Hp} {E : XK} {p : Addr × Obj} (h : Hot1 A p) : HotC (cxH CX P w K mg base N qual scope f cd A outer s H E p).nox := ⟨p, h, List.mem_singleton.mpr rfl⟩
theorem never_okH {k : Nat} {f : Addr} {fd : FuncData} {ps : List Str} : FnH P w K mg base CX0 k f fd ps (spD K (S_never K)) := ⟨fun vs H Q E ⟨G, o, dvs, R, X, wd, a, z, _⟩ => z.elim, fun A outer s H args us vs Q E p _ _ _ _ _ _ ⟨G, o, dvs, R, X, wd, a, z, _⟩ => z.elim⟩
end
section
variable {K : Kx} {ρ : List Sl} {o : Ob} {R : RD} {T : TA}
/-- a call in a suite of a def that does not raise -/
theorem xe_callH {S : DS} {W : L2.St → XK} (h : XAF K T ρ o fun dvs ρ1 o1 => S dvs o1 (fun dv o2 => R dv ρ1 o2) (fun _ _ => False)) : XE K (tCallS (spD K S) W T) ρ o R := fun G σ H e Q q =>
  h G σ H e _ fun vs dvs ρ1 o1 G1 H1 ⟨hd, r⟩ s1 e1 ok => call_run q hd r (fun cls fs d o2 G2 H2 z s2 e2 ek => z.elim) s1 e1 ok
theorem _root_.L2H.RoomH.units {A : Around} {k : Nat} (hr : RoomH k A) : A.units + 64 < cLine := by have := hr.un; omega
theorem hu_ofH {A : Around} {k : Nat} (hr : RoomH k A) : A.units + 1 < cLine := by have := hr.un; omega
theorem passH {X : Cx} {E : XK} {σ : L2.St} : PassesAt CX0 X σ E := fun _ _ _ _ _ _ h => h.elim
end
/-! ### xs[i] = .. -/
section
variable {K : Kx} {ρ : List Sl} {o : Ob} {N : RE}
theorem xg_subL {to ti : TE} {d : PyData} (h : DL.XE K to ρ o fun a ρ1 o1 => DL.XE K ti ρ1 o1 fun b ρ2 o2 => ∃ i ds n m, a = .sl i (.lst ds) ∧ b = .d (.int n) ∧ ρ2[i]? = some (.own (.lst ds)) ∧ ixN ds.length n = some m ∧ N (ρ2.set i (.own (.lst (ds.set m d)))) o2) :
    XG K (gSub to ti rSetL) (.d d) ρ o N := fun G σ H v e ok Q q =>
  h.seq e fun x a ρ1 o1 G1 H1 r1 s1 e1 ok1 fr1 => r1.seq e1 fun u b ρ2 o2 G2 H2 ⟨i, ds, n, m, ha, hb, hi, hx, r2⟩ s2 e2 ok2 fr2 => by
    subst ha hb
    have k1 := (ok1.step s2 (show DL.Kept ρ2 (.sl i (.lst ds)) from hi)).1
    cases vok_int ok2
    obtain ⟨p, y, k2, g2, h2, okc, nf⟩ := e2.own_at hi
    rw [k2] at k1
    cases k1
    obtain ⟨xs, rfl⟩ : ∃ xs, y = .lst xs := by cases y <;> first | exact ⟨_, rfl⟩ | exact okc.elim
    have okc : RpAll K G2 xs ds := okc
    have s12 := s1.trans s2
    have ok3 : COk K G2 (.lst (xs.set m v)) (.lst (ds.set m d)) := RpAll.set (Rp.sub s12.g ok) m okc
    exact ⟨p, xs, n, m, rfl, rfl, h2, by rw [okc.len]; exact hx, q _ _ _ _ _ r2 (s12.trans (e2.mut hi k2 ok3).2) (e2.mut hi k2 ok3).1⟩
end
end DL

set_option Elab.async false
set_option linter.all false
set_option maxRecDepth 100000
namespace DL
open PySem PySem.Spec PyProof.Rows L2 TL
theorem ble_f {a b : Nat} (h : b < a) : Nat.ble a b = false := by
  cases e : Nat.ble a b with
  | false => rfl
  | true => exact absurd (Nat.ble_eq.mp e) (by omega)
theorem mem_tab {L : List Nat} {p : Nat → Bool} (h1 : (L.all fun c => decide (c < 128)) = true) (h2 : ((List.range 128).all fun c => decide (c ∈ L) == p c) = true) (h3 : ∀ c, 128 ≤ c → p c = false) (c : Nat) : decide (c ∈ L) = p c := by
  by_cases h : c < 128
  · have := List.all_eq_true.mp h2 c (List.mem_range.mpr h)
    exact eq_of_beq this
  · rw [h3 c (by omega)]
    refine decide_eq_false fun hm => h ?_
    exact of_decide_eq_true (List.all_eq_true.mp h1 c hm)
/-! ### signs that may stand in a text -/
def okB (c : Nat) : Bool := c == 10 || (Nat.ble 32 c && Nat.ble c 126 && c != 37)
theorem okB_big (c : Nat) (h : 128 ≤ c) : okB c = false := by
  unfold okB
  rw [ble_f (show 126 < c by omega), Bool.and_false, Bool.false_and, Bool.or_false]
  simp; omega
theorem okB_okc {c : Nat} (h : okc c) : okB c = true := by
  unfold okB
  rcases h with h | ⟨h1, h2, h3⟩
  · subst h; rfl
  · rw [Nat.ble_eq.mpr h1, Nat.ble_eq.mpr h2]
    simp [h3]
def S_has_right_characters (_ : PySem.W.Frag) : DS := fun dvs o R X => ∃ t : Str, dvs = [.d (.str t)] ∧ R (.d (.bool ((tl t).all okB))) o
theorem all_take {p : Nat → Bool} {l : List Nat} {k c : Nat} (h : l[k]? = some c) (ha : (l.take k).all p = true) (hp : p c = true) : (l.take (k + 1)).all p = true := by
  rw [take_snoc h, List.all_append, ha]
  simp [hp]
theorem all_not {p : Nat → Bool} {l : List Nat} {k c : Nat} (h : l[k]? = some c) (hp : p c = false) : l.all p = false := by
  rw [List.all_eq_false]
  exact ⟨c, List.mem_of_getElem? h, by rw [hp]; decide⟩
theorem app_tl (a b : Str) : tl (a ++ b) = tl a ++ tl b := by
  show (a ++ b).cps.toList = _
  have : (a ++ b).cps = a.cps ++ b.cps := rfl
  rw [this, Array.toList_append]
end DL

set_option Elab.async false
set_option linter.all false
set_option maxRecDepth 100000
namespace DL
open PySem PySem.Spec PyProof.Rows L2 TL
/-! ### edits that fit -/
def Fits (t : Str) (s e : Int) (n : Str) : Prop := 0 ≤ s ∧ s ≤ e ∧ e ≤ (t.length : Int) ∧ (tl n).all okB = true ∧ (t.length : Int) - (e - s) + (n.length : Int) ≤ 4000
def S_apply_edit (K : PySem.W.Frag) : DS := fun dvs o R X => ∃ (t : Str) (s e : Int) (n : Str), dvs = [.d (.str t), .d (.tuple [.int s, .int e, .str n])] ∧ t.length ≤ 100000 ∧ n.length ≤ 100000 ∧
  (Fits t s e n → ∀ r : Str, tl r = (tl t).take s.toNat ++ tl n ++ (tl t).drop e.toNat → R (.d (.str r)) o) ∧ (¬ Fits t s e n → ∀ ex, ExN K "InvalidEdit" ex → X ex o)
def S_inverse (K : PySem.W.Frag) : DS := fun dvs o R X => ∃ (t : Str) (s e : Int) (n : Str), dvs = [.d (.str t), .d (.tuple [.int s, .int e, .str n])] ∧ t.length ≤ 100000 ∧ n.length ≤ 100000 ∧
  (Fits t s e n → ∀ r : Str, tl r = ((tl t).take e.toNat).drop s.toNat → R (.d (.tuple [.int s, .int (s + n.length), .str r])) o) ∧ (¬ Fits t s e n → ∀ ex, ExN K "InvalidEdit" ex → X ex o)
def S_is_text (_ : PySem.W.Frag) : DS := fun dvs o R X => ∃ t : Str, dvs = [.d (.str t)] ∧ t.length ≤ 100000 ∧ R (.d (.bool (decide (t.length ≤ 4000) && (tl t).all okB))) o
instance (t : Str) (s e : Int) (n : Str) : Decidable (Fits t s e n) := by unfold Fits; infer_instance
/-- new strings of the law: signs of texts, a tab at the end or none -/
def NewOk (n : Str) : Prop := n.length ≤ 200 ∧ ((tl n).all okB = !decide (9 ∈ tl n))
def S__law_fits (_ : PySem.W.Frag) : DS := fun dvs o R X => ∃ (t : Str) (s e : Int) (n : Str), dvs = [.d (.str t), .d (.tuple [.int s, .int e, .str n])] ∧ t.length ≤ 100000 ∧ NewOk n ∧ R (.d (.bool (decide (Fits t s e n)))) o
def S__law_offset (K : PySem.W.Frag) : DS := fun dvs o R X => ∃ (τ : Addr) (t : Str), dvs = [.raw (.ref τ), .d (.str t)] ∧ o = tapeOb K τ ∧ t.length ≤ 100000 ∧ ∀ v : Int, -1 ≤ v → v ≤ t.length + 1 → R (.d (.int v)) (tapeOb K τ)
theorem newOk_of {n : Str} {m : Nat} (h : TextOk n m) (hm : m ≤ 200) : NewOk n := by
  refine ⟨Nat.le_trans h.len hm, ?_⟩
  have h1 : (tl n).all okB = true := List.all_eq_true.mpr fun c hc => okB_okc (h.ok c hc)
  have h2 : ¬ 9 ∈ tl n := fun z => by
    rcases h.ok 9 z with q | ⟨q, _⟩
    · cases q
    · omega
  rw [h1, decide_eq_false h2]; rfl
theorem tl_tab : tl ("\t" : Str) = [9] := by decide +kernel
theorem newOk_tab {n : Str} {m : Nat} (h : TextOk n m) (hm : m ≤ 199) : NewOk (n ++ ("\t" : Str)) := by
  have e : tl (n ++ ("\t" : Str)) = tl n ++ [9] := by rw [app_tl, tl_tab]
  refine ⟨?_, ?_⟩
  · have := h.len
    rw [len_tl, e, List.length_append, ← len_tl, List.length_singleton]
    omega
  · rw [e, List.all_append]
    have h2 : 9 ∈ tl n ++ [9] := List.mem_append_right _ (List.mem_singleton.mpr rfl)
    rw [decide_eq_true h2]
    have : ([9] : List Nat).all okB = false := by decide
    rw [this, Bool.and_false]; rfl
end DL

set_option Elab.async false
set_option linter.all false
set_option maxRecDepth 100000
namespace DL
open PySem PySem.Spec PyProof.Rows L2 TL
/-! ### joint edits -/
abbrev Ed := Nat × Nat × Str
abbrev edD (e : Ed) : PyData := .tuple [.int e.1, .int e.2.1, .str e.2.2]
def inO (L : Nat) : Nat → List Ed → Bool
  | _, [] => true
  | a, e :: r => decide (a ≤ e.1) && (decide (e.1 ≤ e.2.1) && (decide (e.2.1 ≤ L) && inO L e.2.1 r))
def jt (T : List Nat) : Nat → List Ed → List Nat
  | a, [] => T.drop a
  | a, e :: r => (T.drop a).take (e.1 - a) ++ (tl e.2.2 ++ jt T e.2.1 r)
def GoodE (es : List Ed) : Prop := ∀ e ∈ es, (tl e.2.2).all okB = true ∧ e.2.2.length ≤ 100
theorem drop_at {α : Type} {xs : List α} {k : Nat} {x : α} (h : xs[k]? = some x) : xs.drop k = x :: xs.drop (k + 1) := by
  obtain ⟨hl, e⟩ := List.getElem?_eq_some_iff.mp h
  rw [List.drop_eq_getElem_cons hl, e]
theorem inO_cons {L a : Nat} {e : Ed} {r : List Ed} (h : inO L a (e :: r) = true) : a ≤ e.1 ∧ e.1 ≤ e.2.1 ∧ e.2.1 ≤ L ∧ inO L e.2.1 r = true := by
  simpa [inO] using h
theorem jt_len {T : List Nat} : ∀ {es : List Ed} {a : Nat}, inO T.length a es = true → a ≤ T.length → GoodE es → (jt T a es).length ≤ T.length - a + 100 * es.length
  | [], a, _, _, _ => by show (T.drop a).length ≤ _; rw [List.length_drop]; simp
  | e :: r, a, h, ha, g => by
    obtain ⟨h1, h2, h3, h4⟩ := inO_cons h
    have ih := jt_len h4 h3 fun x hx => g x (List.mem_cons_of_mem _ hx)
    have hn := (g e List.mem_cons_self).2
    show ((T.drop a).take (e.1 - a) ++ (tl e.2.2 ++ jt T e.2.1 r)).length ≤ _
    rw [List.length_append, List.length_append, List.length_take, List.length_drop, ← len_tl, List.length_cons]
    omega
/-- the text where the edits behind the k-th are done -/
def jx (T : List Nat) (a : Nat) (es : List Ed) : List Nat := T.take a ++ jt T a es
theorem jx_len {T : List Nat} {es : List Ed} {a : Nat} (h : inO T.length a es = true) (ha : a ≤ T.length) (g : GoodE es) : (jx T a es).length ≤ T.length + 100 * es.length := by
  have := jt_len h ha g
  unfold jx
  rw [List.length_append, List.length_take]
  omega
theorem jx_step {T : List Nat} {e : Ed} {r : List Ed} {a : Nat} (h1 : a ≤ e.1) (h2 : e.1 ≤ e.2.1) (h3 : e.2.1 ≤ T.length) :
    (jx T e.2.1 r).take e.1 ++ tl e.2.2 ++ (jx T e.2.1 r).drop e.2.1 = jx T a (e :: r) := by
  have l1 : (T.take e.2.1).length = e.2.1 := by rw [List.length_take]; omega
  have c1 : (jx T e.2.1 r).take e.1 = T.take e.1 := by
    unfold jx
    rw [List.take_append_of_le_length (by omega), List.take_take, Nat.min_eq_left h2]
  have c2 : (jx T e.2.1 r).drop e.2.1 = jt T e.2.1 r := by
    unfold jx
    conv => lhs; rw [← l1]
    rw [l1, List.drop_append, l1, Nat.sub_self, List.drop_zero, List.drop_of_length_le (by omega), List.nil_append]
  rw [c1, c2]
  show T.take e.1 ++ tl e.2.2 ++ jt T e.2.1 r = T.take a ++ ((T.drop a).take (e.1 - a) ++ (tl e.2.2 ++ jt T e.2.1 r))
  have c3 : T.take e.1 = T.take a ++ (T.drop a).take (e.1 - a) := by
    rw [List.take_drop, show a + (e.1 - a) = e.1 by omega]
    have : T.take a = (T.take e.1).take a := by rw [List.take_take, Nat.min_eq_left h1]
    rw [this, List.take_append_drop]
  rw [c3, List.append_assoc, List.append_assoc]
/-- where the k-th edit may start -/
def edAt : List Ed → Nat → Nat
  | _, 0 => 0
  | es, k + 1 => match es[k]? with
    | some e => e.2.1
    | none => 0
theorem inO_at {L : Nat} {es : List Ed} (h : inO L 0 es = true) : ∀ k, k ≤ es.length → inO L (edAt es k) (es.drop k) = true ∧ edAt es k ≤ L
  | 0, _ => ⟨h, Nat.zero_le _⟩
  | k + 1, hk => by
    obtain ⟨i1, i2⟩ := inO_at h k (by omega)
    have he := List.getElem?_eq_getElem (show k < es.length by omega)
    rw [drop_at he] at i1
    obtain ⟨h1, h2, h3, h4⟩ := inO_cons i1
    have e : edAt es (k + 1) = es[k].2.1 := by simp only [edAt, he]
    rw [e]
    exact ⟨h4, h3⟩
theorem sum_room {ps : List Str} (h : ∀ p ∈ ps, p.length ≤ 1000) (hl : ps.length ≤ 21) : (ps.map (·.length)).sum + ps.length * ("" : Str).length ≤ 16777216 := by
  have e : ("" : Str).length = 0 := by decide +kernel
  have key : ∀ ps : List Str, (∀ p ∈ ps, p.length ≤ 1000) → (ps.map (·.length)).sum ≤ 1000 * ps.length := by
    intro ps
    induction ps with
    | nil => intro _; simp
    | cons p r ih =>
      intro h
      have := ih fun x hx => h x (List.mem_cons_of_mem _ hx)
      have h1 := h p List.mem_cons_self
      rw [List.map_cons, List.sum_cons, List.length_cons]
      omega
  have := key ps h
  rw [e]
  omega
theorem ixN_of {n j : Nat} (h : j < n) : ixN n (j : Int) = some j := by
  unfold ixN
  rw [if_pos (by omega), if_pos (by omega), Int.toNat_natCast]
theorem jx_end (T : List Nat) (a : Nat) : jx T a [] = T := List.take_append_drop a T
theorem jx_0 (T : List Nat) (es : List Ed) : jx T 0 es = jt T 0 es := rfl
theorem jx_ge {T : List Nat} {a : Nat} (es : List Ed) (h : a ≤ T.length) : a ≤ (jx T a es).length := by
  unfold jx
  rw [List.length_append, List.length_take]
  omega
theorem ok_str {z : Str} (h : (tl z).all okB = true) : PyData.canLay0 (.str z) = true := by
  show z.cps.all (· < 0x110000) = true
  rw [← Array.all_toList]
  refine List.all_eq_true.mpr fun c hc => ?_
  have h1 := List.all_eq_true.mp h c hc
  have h2 : c < 128 := by
    by_cases hh : c < 128
    · exact hh
    · rw [okB_big c (by omega)] at h1; cases h1
  exact decide_eq_true (by omega)
theorem ed_shaped {es : List Ed} (g : GoodE es) : SeqAt.shaped (.list (es.map edD)) = true := (shp_lst (n := 1) fun d hd => by
  obtain ⟨e, he, rfl⟩ := List.mem_map.mp hd
  exact shp_tup fun d hd => by
    have : d = .int e.1 ∨ d = .int e.2.1 ∨ d = .str e.2.2 := by simpa using hd
    rcases this with rfl | rfl | rfl
    · exact shp_int
    · exact shp_int
    · exact ⟨ok_str (g e he).1, Nat.zero_le _⟩).shaped
theorem ed_some {es : List Ed} (h : (!PyData.eqv (.list (es.map edD)) (.list [])) = true) : es ≠ [] := fun z => by subst z; cases h
theorem ed_smc {es : List Ed} (h : es.length ≤ 10) : SmC 2 (.list (es.map edD)) := .lst (by rw [List.length_map]; omega) fun d hd => by
  obtain ⟨e, _, rfl⟩ := List.mem_map.mp hd
  refine .tup (show 3 < 16777216 by decide) fun d hd => ?_
  have : d = .int e.1 ∨ d = .int e.2.1 ∨ d = .str e.2.2 := by simpa using hd
  rcases this with rfl | rfl | rfl
  · exact .int
  · exact .int
  · exact .str
theorem ed_sm {es : List Ed} (h : es.length ≤ 10) : Sm 2 (.list (es.map edD)) := .lst (by rw [List.length_map]; omega) fun d hd => by
  obtain ⟨e, _, rfl⟩ := List.mem_map.mp hd
  refine .tup (show 3 < 2 ^ 62 by decide) fun d hd => ?_
  have : d = .int e.1 ∨ d = .int e.2.1 ∨ d = .str e.2.2 := by simpa using hd
  rcases this with rfl | rfl | rfl
  · exact .int
  · exact .int
  · exact .str
def S__law_in_order (_ : PySem.W.Frag) : DS := fun dvs o R X => ∃ (t : Str) (es : List Ed), dvs = [.d (.str t), .d (.list (es.map edD))] ∧ t.length ≤ 100000 ∧ R (.d (.bool (inO t.length 0 es))) o
def S_apply_joint (K : PySem.W.Frag) : DS := fun dvs o R X => ∃ (t : Str) (es : List Ed), dvs = [.d (.str t), .d (.list (es.map edD))] ∧ t.length ≤ 1000 ∧ es.length ≤ 10 ∧ GoodE es ∧
  (inO t.length 0 es = true → ∀ r : Str, tl r = jt (tl t) 0 es → R (.d (.str r)) o) ∧ (inO t.length 0 es = false → ∀ ex, ExN K "InvalidEdit" ex → X ex o)
end DL

set_option Elab.async false
set_option linter.all false
set_option maxRecDepth 100000
set_option maxHeartbeats 4000000
namespace My
open PySem PySem.Spec PyProof.Rows L2 DL
def k_CHARACTERS : Str := " !\"#$&'()*+,-./0123456789:;<=>?@ABCDEFGHIJKLMNOPQRSTUVWXYZ[\\]^_`abcdefghijklmnopqrstuvwxyz{|}~\n"
def topS (i : Nat) : Stmt := PySem.Challenge.pw_samenames_k02_joint_edits.main.body.getD i (.Pass ⟨0, 0, 0, 0⟩)
abbrev s_has_right_characters : Stmt := topS 6
abbrev N_has_right_characters : List Str := ["value", "char"]
theorem sc_has_right_characters : FnScope N_has_right_characters ["value"] (defScope s_has_right_characters) := ⟨rfl, rfl, rfl, by decide +kernel, rfl, by decide +kernel, by decide +kernel⟩
abbrev s_apply_edit : Stmt := topS 7
abbrev N_apply_edit : List Str := ["text", "edit", "start", "end", "new", "result"]
theorem sc_apply_edit : FnScope N_apply_edit ["text", "edit"] (defScope s_apply_edit) := ⟨rfl, rfl, rfl, by decide +kernel, rfl, by decide +kernel, by decide +kernel⟩
abbrev s_apply_joint : Stmt := topS 8
abbrev N_apply_joint : List Str := ["text", "edits", "at", "parts", "start", "end", "new", "result"]
theorem sc_apply_joint : FnScope N_apply_joint ["text", "edits"] (defScope s_apply_joint) := ⟨rfl, rfl, rfl, by decide +kernel, rfl, by decide +kernel, by decide +kernel⟩
abbrev s__law_tape : Stmt := topS 10
abbrev N__law_tape : List Str := ["_law_script", "_law_cell", "_law_cells", "_law_seed"]
theorem sc__law_tape : FnScope N__law_tape ["_law_script"] (defScope s__law_tape) := ⟨rfl, rfl, rfl, by decide +kernel, rfl, by decide +kernel, by decide +kernel⟩
abbrev s__law_take : Stmt := topS 11
abbrev N__law_take : List Str := ["_law_tape_here", "_law_many", "_law_drawn", "_law_mixed"]
theorem sc__law_take : FnScope N__law_take ["_law_tape_here", "_law_many"] (defScope s__law_take) := ⟨rfl, rfl, rfl, by decide +kernel, rfl, by decide +kernel, by decide +kernel⟩
abbrev s__law_is_integer : Stmt := topS 12
abbrev N__law_is_integer : List Str := ["_law_actual"]
theorem sc__law_is_integer : FnScope N__law_is_integer ["_law_actual"] (defScope s__law_is_integer) := ⟨rfl, rfl, rfl, by decide +kernel, rfl, by decide +kernel, by decide +kernel⟩
abbrev s__law_same_items : Stmt := topS 13
abbrev N__law_same_items : List Str := ["_law_actual", "_law_expected", "_law_k"]
theorem sc__law_same_items : FnScope N__law_same_items ["_law_actual", "_law_expected"] (defScope s__law_same_items) := ⟨rfl, rfl, rfl, by decide +kernel, rfl, by decide +kernel, by decide +kernel⟩
abbrev s__law_same : Stmt := topS 14
abbrev N__law_same : List Str := ["_law_actual", "_law_expected", "_law_key"]
theorem sc__law_same : FnScope N__law_same ["_law_actual", "_law_expected"] (defScope s__law_same) := ⟨rfl, rfl, rfl, by decide +kernel, rfl, by decide +kernel, by decide +kernel⟩
abbrev s__law_copy : Stmt := topS 15
abbrev N__law_copy : List Str := ["_law_thing", "_law_result", "_law_key", "_law_item"]
theorem sc__law_copy : FnScope N__law_copy ["_law_thing"] (defScope s__law_copy) := ⟨rfl, rfl, rfl, by decide +kernel, rfl, by decide +kernel, by decide +kernel⟩
abbrev s__law_snippet : Stmt := topS 16
abbrev N__law_snippet : List Str := ["_law_tape_here", "_law_pieces", "_law_k"]
theorem sc__law_snippet : FnScope N__law_snippet ["_law_tape_here"] (defScope s__law_snippet) := ⟨rfl, rfl, rfl, by decide +kernel, rfl, by decide +kernel, by decide +kernel⟩
abbrev s__law_char : Stmt := topS 17
abbrev N__law_char : List Str := ["_law_tape_here", "_law_chars"]
theorem sc__law_char : FnScope N__law_char ["_law_tape_here"] (defScope s__law_char) := ⟨rfl, rfl, rfl, by decide +kernel, rfl, by decide +kernel, by decide +kernel⟩
abbrev s__law_any_text : Stmt := topS 18
abbrev N__law_any_text : List Str := ["_law_tape_here", "_law_most", "_law_parts", "_law_k"]
theorem sc__law_any_text : FnScope N__law_any_text ["_law_tape_here", "_law_most"] (defScope s__law_any_text) := ⟨rfl, rfl, rfl, by decide +kernel, rfl, by decide +kernel, by decide +kernel⟩
abbrev s__law_in_order : Stmt := topS 19
abbrev N__law_in_order : List Str := ["_law_text", "_law_edits", "_law_at", "_law_start", "_law_end", "_law_new"]
theorem sc__law_in_order : FnScope N__law_in_order ["_law_text", "_law_edits"] (defScope s__law_in_order) := ⟨rfl, rfl, rfl, by decide +kernel, rfl, by decide +kernel, by decide +kernel⟩
abbrev s_law : Stmt := topS 20
abbrev N_law : List Str := ["_law_script", "_law_tape_here", "_law_text", "_law_edits", "_law_at", "_law_k", "_law_start", "_law_choice", "_law_before", "_law_actual", "_law_expected"]
theorem sc_law : FnScope N_law ["_law_script"] (defScope s_law) := ⟨rfl, rfl, rfl, by decide +kernel, rfl, by decide +kernel, by decide +kernel⟩
structure Txt (K : PySem.W.Frag) (mg : Str → Option Value) where
  a_has_right_characters : Addr
  fd_has_right_characters : FuncData
  F_has_right_characters : Fun K "has_right_characters" "has_right_characters" s_has_right_characters a_has_right_characters fd_has_right_characters
  g_has_right_characters : mg "has_right_characters" = some (.ref a_has_right_characters)
  b_has_right_characters : Binds K fd_has_right_characters ["value"] []
  a_apply_edit : Addr
  fd_apply_edit : FuncData
  F_apply_edit : Fun K "apply_edit" "apply_edit" s_apply_edit a_apply_edit fd_apply_edit
  g_apply_edit : mg "apply_edit" = some (.ref a_apply_edit)
  b_apply_edit : Binds K fd_apply_edit ["text", "edit"] []
  a_apply_joint : Addr
  fd_apply_joint : FuncData
  F_apply_joint : Fun K "apply_joint" "apply_joint" s_apply_joint a_apply_joint fd_apply_joint
  g_apply_joint : mg "apply_joint" = some (.ref a_apply_joint)
  b_apply_joint : Binds K fd_apply_joint ["text", "edits"] []
  a__law_tape : Addr
  fd__law_tape : FuncData
  F__law_tape : Fun K "_law_tape" "_law_tape" s__law_tape a__law_tape fd__law_tape
  g__law_tape : mg "_law_tape" = some (.ref a__law_tape)
  b__law_tape : Binds K fd__law_tape ["_law_script"] []
  a__law_take : Addr
  fd__law_take : FuncData
  F__law_take : Fun K "_law_take" "_law_take" s__law_take a__law_take fd__law_take
  g__law_take : mg "_law_take" = some (.ref a__law_take)
  b__law_take : Binds K fd__law_take ["_law_tape_here", "_law_many"] []
  a__law_is_integer : Addr
  fd__law_is_integer : FuncData
  F__law_is_integer : Fun K "_law_is_integer" "_law_is_integer" s__law_is_integer a__law_is_integer fd__law_is_integer
  g__law_is_integer : mg "_law_is_integer" = some (.ref a__law_is_integer)
  b__law_is_integer : Binds K fd__law_is_integer ["_law_actual"] []
  a__law_same_items : Addr
  fd__law_same_items : FuncData
  F__law_same_items : Fun K "_law_same_items" "_law_same_items" s__law_same_items a__law_same_items fd__law_same_items
  g__law_same_items : mg "_law_same_items" = some (.ref a__law_same_items)
  b__law_same_items : Binds K fd__law_same_items ["_law_actual", "_law_expected"] []
  a__law_same : Addr
  fd__law_same : FuncData
  F__law_same : Fun K "_law_same" "_law_same" s__law_same a__law_same fd__law_same
  g__law_same : mg "_law_same" = some (.ref a__law_same)
  b__law_same : Binds K fd__law_same ["_law_actual", "_law_expected"] []
  a__law_copy : Addr
  fd__law_copy : FuncData
  F__law_copy : Fun K "_law_copy" "_law_copy" s__law_copy a__law_copy fd__law_copy
  g__law_copy : mg "_law_copy" = some (.ref a__law_copy)
  b__law_copy : Binds K fd__law_copy ["_law_thing"] []
  a__law_snippet : Addr
  fd__law_snippet : FuncData
  F__law_snippet : Fun K "_law_snippet" "_law_snippet" s__law_snippet a__law_snippet fd__law_snippet
  g__law_snippet : mg "_law_snippet" = some (.ref a__law_snippet)
  b__law_snippet : Binds K fd__law_snippet ["_law_tape_here"] []
  a__law_char : Addr
  fd__law_char : FuncData
  F__law_char : Fun K "_law_char" "_law_char" s__law_char a__law_char fd__law_char
  g__law_char : mg "_law_char" = some (.ref a__law_char)
  b__law_char : Binds K fd__law_char ["_law_tape_here"] []
  a__law_any_text : Addr
  fd__law_any_text : FuncData
  F__law_any_text : Fun K "_law_any_text" "_law_any_text" s__law_any_text a__law_any_text fd__law_any_text
  g__law_any_text : mg "_law_any_text" = some (.ref a__law_any_text)
  b__law_any_text : Binds K fd__law_any_text ["_law_tape_here", "_law_most"] []
  a__law_in_order : Addr
  fd__law_in_order : FuncData
  F__law_in_order : Fun K "_law_in_order" "_law_in_order" s__law_in_order a__law_in_order fd__law_in_order
  g__law_in_order : mg "_law_in_order" = some (.ref a__law_in_order)
  b__law_in_order : Binds K fd__law_in_order ["_law_text", "_law_edits"] []
  a_law : Addr
  fd_law : FuncData
  F_law : Fun K "law" "law" s_law a_law fd_law
  g_law : mg "law" = some (.ref a_law)
  b_law : Binds K fd_law ["_law_script"] []
  n_abs : mg "abs" = none
  n_bool : mg "bool" = none
  n_dict : mg "dict" = none
  n_int : mg "int" = none
  n_isinstance : mg "isinstance" = none
  n_len : mg "len" = none
  n_list : mg "list" = none
  n_max : mg "max" = none
  n_min : mg "min" = none
  n_range : mg "range" = none
  n_str : mg "str" = none
  n_tuple : mg "tuple" = none
  c_MOST : ∃ t, mg "MOST" = some (.int 4000 t)
  c_CHARACTERS : ∃ t, mg "CHARACTERS" = some (.str k_CHARACTERS t)
  e_ServerError : Addr
  i_ServerError : PySem.W.nsIn K mainGlobals "ServerError" = some (some (.ref e_ServerError))
  g_ServerError : mg "ServerError" = some (.ref e_ServerError)
  x_ServerError : PySem.W.excIn K e_ServerError [.type "ValueError", .type "Exception", .type "BaseException", .type "object"] "ValueError.__new__" = true
  k_ServerError : PySem.W.keepIn K (.ref e_ServerError) = true
  b_ServerError : PySem.W.subIn K (.ref e_ServerError) (.type "BaseException") = some true
  t_ServerError : PySem.W.typeIn K (.ref e_ServerError) = some (.type "type")
  d_ServerError : PySem.W.hasDictIn K e_ServerError = true
  e_InvalidEdit : Addr
  i_InvalidEdit : PySem.W.nsIn K mainGlobals "InvalidEdit" = some (some (.ref e_InvalidEdit))
  g_InvalidEdit : mg "InvalidEdit" = some (.ref e_InvalidEdit)
  x_InvalidEdit : PySem.W.excIn K e_InvalidEdit [.type "ValueError", .type "Exception", .type "BaseException", .type "object"] "ValueError.__new__" = true
  k_InvalidEdit : PySem.W.keepIn K (.ref e_InvalidEdit) = true
  b_InvalidEdit : PySem.W.subIn K (.ref e_InvalidEdit) (.type "BaseException") = some true
  t_InvalidEdit : PySem.W.typeIn K (.ref e_InvalidEdit) = some (.type "type")
  d_InvalidEdit : PySem.W.hasDictIn K e_InvalidEdit = true
  s_InvalidEdit_InvalidEdit : PySem.W.subIn K (.ref e_InvalidEdit) (.ref e_InvalidEdit) = some true
/-- one step that has no choice (the key stands for «x») -/
local macro_rules | `(tactic| array_get_dec) => do
  let h := Lean.mkIdent `hrest
  let h1 := Lean.mkIdent `hthen
  let h2 := Lean.mkIdent `helse
  `(tactic| first
  | with_reducible refine ⟨kept_d, ?_⟩
  | with_reducible (first
    | ((show DL.XE _ _ _ _ _); first
      | ((show DL.XE _ (tC _) _ _ _); first | refine xe_int ?_ | refine xe_str ?_ | refine xe_bl ?_ | refine xe_non ?_ | refine xe_conR (by assumption) ?_ | refine xe_raw ?_)
      | refine xe_op ?_ | refine xe_cb ?_ | refine xe_call ?_ | refine xe_callS ?_ | refine xe_callH ?_ | refine xe_sl ?_ | refine xe_tupD ?_ | refine xe_lstD ?_ | refine xe_neg ?_ | refine xe_and ?_ | refine xe_or ?_ | refine xe_not ?_ | refine xe_chain ?_ | refine xe_chain3 ?_ | refine xe_if ?_ | refine xe_disp ?_ | refine xe_repC ?_ | ((show DL.XE _ (tBM _ _ rAppend _ _) _ _ _); refine xe_bmF ?_) | refine xe_bm ?_ | refine xe_bm0 ?_)
    | ((show PPairs _ _ _ _ _); first | refine pp_str ?_ | refine .nil ?_)
    | ((show XR _ _ _ _ _ _ _); first | refine xr_addI ?_ | refine xr_isB ?_ | refine xr_notB ?_ | refine xr_eqI ?_ | refine xr_eqS ?_ | refine xr_sub ?_ | refine xr_ltI ?_ | refine xr_leI ?_ | refine xr_gtI ?_ | refine xr_geI ?_ | refine xr_eqB ?_ | refine xr_neI ?_ | refine xr_neS ?_ | refine xr_leS ?_ | refine xr_inC ?_ | refine xr_notInC ?_ | refine xr_isN_non ?_ | refine xr_isN_int ?_ | refine xr_isN_str ?_ | refine xr_isN_bl ?_ | refine xr_isN_tup ?_ | refine xr_isN_lst ?_ | refine xr_notN_non ?_ | refine xr_notN_int ?_ | refine xr_notN_str ?_ | refine xr_notN_bl ?_ | refine xr_notN_tup ?_ | refine xr_notN_lst ?_)
    | ((show XC _ (rIsi _) _ _ _ _); first
      | ((show XC _ _ [_, DV.raw (V.ty "bool")] _ _ _); first | refine xc_isi ki_int_bool ?_ | refine xc_isi ki_str_bool ?_ | refine xc_isi ki_bool_bool ?_ | refine xc_isi ki_tuple_bool ?_ | refine xc_isi ki_list_bool ?_)
      | ((show XC _ _ [_, DV.raw (V.ty "int")] _ _ _); first | refine xc_isi ki_int_int ?_ | refine xc_isi ki_str_int ?_ | refine xc_isi ki_bool_int ?_ | refine xc_isi ki_tuple_int ?_ | refine xc_isi ki_list_int ?_)
      | ((show XC _ _ [_, DV.raw (V.ty "str")] _ _ _); first | refine xc_isi ki_int_str ?_ | refine xc_isi ki_str_str ?_ | refine xc_isi ki_bool_str ?_ | refine xc_isi ki_tuple_str ?_ | refine xc_isi ki_list_str ?_)
      | ((show XC _ _ [_, DV.raw (V.ty "tuple")] _ _ _); first | refine xc_isi ki_int_tuple ?_ | refine xc_isi ki_str_tuple ?_ | refine xc_isi ki_bool_tuple ?_ | refine xc_isi ki_tuple_tuple ?_ | refine xc_isi ki_list_tuple ?_)
      | ((show XC _ _ [_, DV.raw (V.ty "list")] _ _ _); first | refine xc_isi ki_int_list ?_ | refine xc_isi ki_str_list ?_ | refine xc_isi ki_bool_list ?_ | refine xc_isi ki_tuple_list ?_ | refine xc_isi ki_list_list ?_))
    | ((show XC _ _ _ _ _ _); first | refine xc_lenT ?_ | refine xc_abs ?_ | refine xc_min2 ?_ | refine xc_max2 ?_ | refine xc_int1 ?_)
    | ((show XA _ _ _ _ _); first | refine xa_nil ?_ | refine xa_cons ?_)
    | ((show XAF _ _ _ _ _); first | refine xaf_nil ?_ | refine xaf_cons ?_)
    | ((show XAD _ _ _ _ _); first | refine xad_nil ?_ | refine xad_cons ?_)
    | ((show XGs _ _ _ _ _ _); first | refine xgs_cons ?_ | refine xgs_nilM ?_)
    | ((show XO _ _ _ _ _); first | refine xo_no ?_ | refine xo_part ?_)
    | ((show XT _ _ _ _ _); first | refine xt_test ?_ | refine xt_b ?_ | refine xt_and ?_ | refine xt_or ?_ | refine xt_not ?_ | refine xt_tru ?_ | refine xt_yes ?_)
    | ((show XS _ _ _ _ _ _ _ _); first | refine xs_seqH fun _ $h => ?_ | refine xs_ifH fun _ _ $h1 $h2 => ?_ | refine xs_asg ?_ | refine xs_asgG ?_ | refine xs_ret ?_ | refine xs_retN ?_ | refine xs_drop ?_ | refine xs_next ?_ | refine xs_break ?_ | refine xs_cont ?_)
    | refine asr_d ?_ | refine hr_d ?_ | refine fz_d ?_ | refine out_d ?_ | refine asr_n ?_ | refine asr_r ?_ | refine hr_r ?_ | refine fz_r ?_ | refine fz_n ?_ | refine out_r ?_ | refine out_n ?_ | refine out_s ?_)
  | ((with_reducible show XG _ _ _ _ _ _); first | refine xg_tup ?_ | refine xg_nd ?_ | refine xg_nr ?_)
  | ((with_reducible show DL.XE _ (tVar _) _ _ _); first | refine xe_vd rfl ?_ | refine xe_vr rfl ?_ | refine xe_vo rfl ?_)
  | ((with_reducible show DL.XEF _ (tVar _) _ _ _); first | refine xf_vd rfl ?_ | refine xf_vr rfl ?_ | refine xf_vf rfl ?_ | refine xf_stuck ?_)
  | ((with_reducible show XC _ _ [DV.d (PyData.list _)] _ _ _); refine xc_lenL rfl ?_)
  | ((with_reducible show XC _ _ [DV.sl _ _] _ _ _); refine xc_lenL rfl ?_)
  | ((with_reducible show XC _ _ [DV.new _] _ _ _); refine xc_lenL rfl ?_)
  | with_reducible refine xf_of ?_
  | ((with_reducible show List.length _ ≤ sizeLine ∧ _); refine ⟨len_small rfl, ?_⟩)
  | with_reducible (first | refine ⟨ty_s, ?_⟩ | refine ⟨ty_o, ?_⟩ | refine ⟨ty_l, ?_⟩ | refine ⟨ty_n, ?_⟩)
  | with_reducible (first | refine bs_t ?_ | refine bs_f ?_ | refine bs_nt ?_ | refine bs_nf ?_ | refine noow_cons ⟨rfl, fun _ z => nomatch z⟩ ?_ | refine noow_nil)
  | with_reducible (first | refine ⟨_, tru_b, ?_⟩ | refine ⟨_, tru_l, ?_⟩ | refine ⟨_, tru_t, ?_⟩ | refine ⟨_, tru_s, ?_⟩)
  | with_reducible refine ⟨rfl, ?_⟩ | with_reducible refine ⟨_, rfl, ?_⟩
  | (with_reducible refine $h1 _ _ ?_; clear $h1 $h2)
  | (with_reducible refine $h2 _ _ ?_; clear $h1 $h2)
  | (with_reducible refine $h _ _ ?_; clear $h)
  | ((with_reducible show DL.Kept _ (DV.sl _ _) ∧ _); refine ⟨kept_s rfl, ?_⟩)
  | with_reducible refine ⟨kept_r, ?_⟩ | with_reducible refine ⟨kept_n, ?_⟩)

section
variable {P : Program} {w : World} {K : PySem.W.Frag} {mg : Str → Option Value} {base : Heap}
theorem ok__law_take (T : Txt K mg)  : FnOk P w K mg base CX0 1 T.a__law_take T.fd__law_take ["_law_tape_here", "_law_many"] (spD K (S__law_take K)) := by
  refine fnD T.F__law_take sc__law_take ?len fun cdv A outer s H E hr => ?body
  case len => intro dvs o R X h; first | (obtain ⟨rfl, _⟩ := h; rfl) | (obtain ⟨_, rfl, _⟩ := h; rfl) | (obtain ⟨_, _, rfl, _⟩ := h; rfl) | (obtain ⟨_, _, _, rfl, _⟩ := h; rfl) | (obtain ⟨_, _, _, _, rfl, _⟩ := h; rfl) | (obtain ⟨_, _, _, _, _, rfl, _⟩ := h; rfl) | (obtain ⟨_, _, _, _, _, _, rfl, _⟩ := h; rfl)
  have nd := sc__law_take.nd
  have hu := hu_of hr
  refine ⟨_, (pss_cons (ps_if (PW.pt (pw_and (pt_cmpR (DL.op_eqK (K := K) rfl hr.units) (pe_dget hu (pv 0) pe_str (fun _ _ => rfl)) pe_int (nomark _)) (pw_and1 (pt_cmpR (DL.op_ltU) (pe_dget hu (pv 0) pe_str (fun _ _ => rfl)) (pe_callB (DL.call_lenK (K := K) rfl) (by rfl) T.n_len (by decide +kernel) (pa_cons (pe_dget hu (pv 0) pe_str (fun _ _ => rfl)) pa_nil)) (nomark _))))) (pss_cons (ps_dput hu (pv 0) pe_str (pe_ix (DL.ix_K (K := K) rfl) (pe_dget hu (pv 0) pe_str (fun _ _ => rfl)) (pe_dget hu (pv 0) pe_str (fun _ _ => rfl)) (fun _ _ => rfl)) rfl) (pss_one (ps_dput hu (pv 0) pe_str (pe_op (DL.op_addK (K := K) rfl) (pe_dget hu (pv 0) pe_str (fun _ _ => rfl)) pe_int) rfl))) pss_nil) (pss_cons (ps_if (pt_cmpR (op_gt) (pe_dget hu (pv 0) pe_str (fun _ _ => rfl)) pe_int (nomark _)) (pss_cons (ps_set (i := 2) nd rfl (Or.inl rfl) (pe_op op_modN (pe_callTy (call_int1) (by rfl) T.n_int (by decide +kernel) (pa_cons (pe_dget hu (pv 0) pe_str (fun _ _ => rfl)) pa_nil)) (pv 1))) (pss_cons (ps_dput hu (pv 0) pe_str (pe_op op_fdivN (pe_dget hu (pv 0) pe_str (fun _ _ => rfl)) (pv 1)) rfl) (pss_one (ps_ret (pv 2))))) pss_nil) (pss_cons (ps_dput hu (pv 0) pe_str (pe_op (DL.op_addK (K := K) rfl) (pe_dget hu (pv 0) pe_str (fun _ _ => rfl)) pe_int) rfl) (pss_cons (ps_set (i := 3) nd rfl (Or.inl rfl) (pe_op op_modN (pe_callTy (call_int1) (by rfl) T.n_int (by decide +kernel) (pa_cons (pe_op (DL.op_addK (K := K) rfl) (pe_op DL.op_mulU (pe_dget hu (pv 0) pe_str (fun _ _ => rfl)) pe_int) (pe_op DL.op_mulU (pe_dget hu (pv 0) pe_str (fun _ _ => rfl)) pe_int)) pa_nil)) pe_int)) (pss_cons (ps_set (i := 3) nd rfl (Or.inl rfl) (pe_op op_modN (pe_callTy (call_int1) (by rfl) T.n_int (by decide +kernel) (pa_cons (pe_op (DL.op_addK (K := K) rfl) (pe_op (DL.op_addK (K := K) rfl) (pe_op DL.op_mulU (pv 3) (pv 3)) (pe_op DL.op_mulU (pe_dget hu (pv 0) pe_str (fun _ _ => rfl)) pe_int)) pe_int) pa_nil)) pe_int)) (pss_one (ps_ret (pe_op op_modN (pe_callTy (call_int1) (by rfl) T.n_int (by decide +kernel) (pa_cons (pv 3) pa_nil)) (pv 1))))))))), ?_⟩
  intro dvs o R X h
  have st : ∀ z, dvs = z → startD N__law_take.length dvs = startD 4 z := fun z e => by rw [e]; rfl
  obtain ⟨τ, n, rfl, rfl, h0, h1, q⟩ := h
  rw [st _ rfl]; clear st; simp only [startD, toSl, List.map_cons, List.map_nil, List.length_cons, List.length_nil, List.cons_append, List.nil_append, List.append_nil, Nat.reduceAdd, Nat.reduceSub, List.reduceReplicate, Nat.zero_add, List.replicate_zero, Nat.sub_self]
  refine xs_tape fun ns a l s t inv => xs_le ?_
  refine xs_cut (fun ρ' o' => ∃ a' l', ρ' = [.raw (.ref τ), .val (.int n), .no, .no] ∧ o' = dicOb K τ (tapeKvs ns a' l' s t) ∧ TInv ns a' l' s t) ?_ ?_
  · array_get_dec
    refine xt_and (xt_test (xe_op (xe_tget tk_left rfl ?_)))
    repeat array_get_dec
    refine ⟨fun hl => ?_, fun hl => ⟨fun h => (nomatch h), fun _ => ?_⟩⟩
    rotate_left
    · repeat array_get_dec
      exact ⟨a, l, rfl, rfl, inv⟩
    refine xt_test (xe_op (xe_tget tk_at rfl ?_))
    repeat array_get_dec
    refine xe_tget tk_cells rfl ?_
    repeat array_get_dec
    refine ⟨fun hi => ?_, fun hi => ?_⟩
    rotate_left
    · repeat array_get_dec
      exact ⟨a, l, rfl, rfl, inv⟩
    have hi : a < ns.length := by simpa using hi
    have a0 := inv.a0
    have ha : a.toNat < ns.length := by omega
    repeat array_get_dec
    refine xs_tput _ (fun _ => tp_left) rfl (xe_op (xe_tget tk_cells rfl (xe_tget tk_at rfl ⟨trivial, xr_ixL (ds := ns.map .int) rfl (d := .int ns[a.toNat]) ?_ ⟨rfl, rfl, _, rfl, ?_⟩⟩)))
    · unfold atI ixN
      rw [if_pos a0, if_pos (by simpa using hi)]
      simp [ha]
    repeat array_get_dec
    refine xs_tput _ (fun _ => tp_at) rfl (xe_op (xe_tget tk_at rfl ?_))
    repeat array_get_dec
    refine ⟨a + 1, ns[a.toNat], rfl, rfl, ⟨inv.h, by omega, inv.h _ (List.getElem_mem _), inv.s0, inv.s1, inv.t0⟩⟩
  · rintro ρ1 o1 ⟨a, l, rfl, rfl, inv⟩
    repeat array_get_dec
    refine xe_tget tk_left rfl ?_
    repeat array_get_dec
    have l0 := inv.l0
    refine ⟨fun hl => ?_, fun hl => ?_⟩
    · repeat array_get_dec
      refine xe_tget tk_left rfl ?_
      repeat array_get_dec
      refine xr_fmod (show n ≠ 0 by omega) ?_
      repeat array_get_dec
      refine xs_tput _ (fun _ => tp_left) rfl (xe_op (xe_tget tk_left rfl ?_))
      repeat array_get_dec
      refine xr_fdiv ⟨show n ≠ 0 by omega, show n.natAbs < 1073741824 by omega⟩ ?_
      repeat array_get_dec
      have e1 := Int.fmod_eq_emod_of_nonneg l (show (0 : Int) ≤ n by omega)
      have e2 := Int.fdiv_eq_ediv_of_nonneg l (show (0 : Int) ≤ n by omega)
      refine ⟨tapeOb K τ, tape_le ⟨inv.h, inv.a0, ?_, inv.s0, inv.s1, inv.t0⟩, q _ ?_ ?_⟩
      · rw [e2]; exact Int.ediv_nonneg l0 (by omega)
      · rw [e1]; exact Int.emod_nonneg _ (by omega)
      · rw [e1]; exact Int.emod_lt_of_pos _ h0
    · repeat array_get_dec
      refine xs_tput _ (fun _ => tp_salt) rfl (xe_op (xe_tget tk_salt rfl ?_))
      repeat array_get_dec
      refine xe_tget tk_seed rfl ?_
      repeat array_get_dec
      refine xr_mulI (.inr ⟨by decide, by decide⟩) ?_
      repeat array_get_dec
      refine xe_tget tk_salt rfl ?_
      repeat array_get_dec
      refine xr_mulI (.inr ⟨by decide, by decide⟩) ?_
      repeat array_get_dec
      refine xr_fmod (by decide) ?_
      repeat array_get_dec
      have hm := Int.fmod_eq_emod_of_nonneg (s * 48271 + (t + 1) * 69621) (show (0 : Int) ≤ 2147483647 by decide)
      generalize (s * 48271 + (t + 1) * 69621).fmod 2147483647 = m1 at hm ⊢
      have m0 : 0 ≤ m1 := by rw [hm]; exact Int.emod_nonneg _ (by decide)
      have m2 : m1 < 2147483647 := by rw [hm]; exact Int.emod_lt_of_pos _ (by decide)
      refine xr_mulI (.inl ⟨show -(2 ^ 64) < m1 by omega, show m1 < 2 ^ 64 by omega⟩) ?_
      repeat array_get_dec
      refine xe_tget tk_salt rfl ?_
      repeat array_get_dec
      refine xr_mulI (.inr ⟨by decide, by decide⟩) ?_
      repeat array_get_dec
      refine xr_fmod (by decide) ?_
      repeat array_get_dec
      refine xr_fmod (show n ≠ 0 by omega) ?_
      repeat array_get_dec
      have t0 := inv.t0
      generalize (m1 * m1 + (t + 1) * 40692 + 12345).fmod 2147483399 = m3
      have e1 := Int.fmod_eq_emod_of_nonneg m3 (show (0 : Int) ≤ n by omega)
      refine ⟨tapeOb K τ, tape_le ⟨inv.h, inv.a0, inv.l0, inv.s0, inv.s1, by omega⟩, q _ ?_ ?_⟩
      · rw [e1]; exact Int.emod_nonneg _ (by omega)
      · rw [e1]; exact Int.emod_lt_of_pos _ h0

theorem ok__law_tape (T : Txt K mg)  : FnOk P w K mg base CX0 1 T.a__law_tape T.fd__law_tape ["_law_script"] (spD K (S__law_tape K)) := by
  refine fnD T.F__law_tape sc__law_tape ?len fun cdv A outer s H E hr => ?body
  case len => intro dvs o R X h; first | (obtain ⟨rfl, _⟩ := h; rfl) | (obtain ⟨_, rfl, _⟩ := h; rfl) | (obtain ⟨_, _, rfl, _⟩ := h; rfl) | (obtain ⟨_, _, _, rfl, _⟩ := h; rfl) | (obtain ⟨_, _, _, _, rfl, _⟩ := h; rfl) | (obtain ⟨_, _, _, _, _, rfl, _⟩ := h; rfl) | (obtain ⟨_, _, _, _, _, _, rfl, _⟩ := h; rfl)
  have nd := sc__law_tape.nd
  have hu := hu_of hr
  refine ⟨_, (pss_cons (ps_setLc (i := 2) (own := [("_law_cell", 1)]) (g := (gName 1)) (tt := tYes) (by rfl) nd rfl rfl (sw_true rfl rfl rfl (by decide +kernel)) (DL.pi_listK (K := K) rfl (pi_list (pv 0))) (blkOk_by (own := [("_law_cell", 1)]) (N := N__law_tape) (sc := defScope s__law_tape) (by decide +kernel)) (fun _ _ _ _ _ => (pg_name (i := 1) nd rfl (Or.inl rfl))) (fun _ _ _ _ _ => pts_nil) (fun _ _ _ _ _ => (pe_callB (call_abs) (by rfl) T.n_abs (by decide +kernel) (pa_cons (pe_callTy (call_int1) (by rfl) T.n_int (by decide +kernel) (pa_cons (pv 1) pa_nil)) pa_nil)))) (pss_cons (ps_set (i := 3) nd rfl (Or.inl rfl) pe_int) (pss_cons (ps_for PassesOwn.never rfl (DL.pi_listK (K := K) rfl (pi_list (pv 2))) (pg_name (i := 1) nd rfl (Or.inl rfl)) (pss_one (ps_set (i := 3) nd rfl (Or.inl rfl) (pe_op op_modN (pe_callTy (call_int1) (by rfl) T.n_int (by decide +kernel) (pa_cons (pe_op (DL.op_addK (K := K) rfl) (pe_op DL.op_mulU (pv 3) pe_int) (pv 1)) pa_nil)) pe_int)))) (pss_one (ps_ret (pe_disp (pps_cons pe_str (pv 2) (pps_cons pe_str pe_int (pps_cons pe_str pe_int (pps_cons pe_str (pv 3) (pps_cons pe_str pe_int pps_nil))))) (by rfl) (by rfl) (fun z => by cases z) (by decide))))))), ?_⟩
  intro dvs o R X h
  have st : ∀ z, dvs = z → startD N__law_tape.length dvs = startD 4 z := fun z e => by rw [e]; rfl
  obtain ⟨a, ns, rfl, rfl, hn, q⟩ := h
  rw [st _ rfl]; clear st; simp only [startD, toSl, List.map_cons, List.map_nil, List.length_cons, List.length_nil, List.cons_append, List.nil_append, List.append_nil, Nat.reduceAdd, Nat.reduceSub, List.reduceReplicate, Nat.zero_add, List.replicate_zero, Nat.sub_self]
  repeat array_get_dec
  refine xe_lcI (xe_vr rfl ⟨a, ns, rfl, rfl, noow_cons ⟨rfl, fun _ z => nomatch z⟩ noow_nil, fun k acc o => acc.length = k ∧ o = scriptOb K a ns ∧ ∃ cs : List Int, acc = cs.map .int ∧ ∀ n ∈ cs, 0 ≤ n, ⟨rfl, rfl, [], rfl, fun _ h => nomatch h⟩, ?_, ?_⟩)
  · rintro k n acc _ hk hl ⟨hlen, rfl, cs, rfl, hc⟩
    refine ⟨_, bt_name, ?_⟩
    unfold LcTurn
    repeat array_get_dec
    have hk := (List.getElem?_eq_some_iff.mp hk).1
    refine ⟨?_, by simpa using hlen, rfl, cs ++ [if n < 0 then -n else n], by simp, ?_⟩
    · rw [List.length_append]
      exact small1000 (show (List.map PyData.int cs).length + 1 ≤ 1000 by omega)
    · intro z hz
      rcases List.mem_append.mp hz with hz | hz
      · exact hc z hz
      · have : z = if n < 0 then -n else n := by simpa using hz
        rw [this]
        split <;> omega
  · rintro acc _ hl ⟨hlen, rfl, cs, rfl, hc⟩
    repeat array_get_dec
    refine xs_forL (xf_vf rfl ⟨_, rfl, fun k ρ' o' => ∃ (x : Sl) (s : Int), ρ' = [.raw (.ref a), x, .val (.list (cs.map .int)), .val (.int s)] ∧ o' = scriptOb K a ns ∧ 0 ≤ s ∧ s < 2147483647, ⟨_, _, rfl, rfl, by decide, by decide⟩, ?_, ?_⟩)
    · rintro k d ρ' o' hd ⟨x, s, rfl, rfl, h0, h1⟩
      obtain ⟨c, rfl⟩ : ∃ c, d = .int c := by
        rw [List.getElem?_map] at hd
        cases q : cs[k]? with
        | none => rw [q] at hd; cases hd
        | some c => rw [q] at hd; exact ⟨c, (Option.some.inj hd).symm⟩
      refine xg_nd ?_
      repeat array_get_dec
      refine xr_mulI (.inr ⟨by decide, by decide⟩) ?_
      repeat array_get_dec
      refine xr_fmod (by decide) ?_
      repeat array_get_dec
      have hm := Int.fmod_eq_emod_of_nonneg (s * 31 + c) (show (0 : Int) ≤ 2147483647 by decide)
      refine ⟨_, _, rfl, rfl, ?_, ?_⟩
      · rw [hm]; exact Int.emod_nonneg _ (by decide)
      · rw [hm]; exact Int.emod_lt_of_pos _ (by decide)
    · rintro ρ' o' ⟨x, s, rfl, rfl, h0, h1⟩
      repeat array_get_dec
      refine ⟨show 5 ≤ 15 by decide, ?_⟩
      repeat array_get_dec
      have e : mergeD [] [(Sum.inr "cells", PyData.list (cs.map .int)), (Sum.inr "at", .int 0), (Sum.inr "left", .int 0), (Sum.inr "seed", .int s), (Sum.inr "salt", .int 0)] = tapeKvs cs 0 0 s 0 := by with_unfolding_all rfl
      rw [e]
      exact q cs s hc h0 h1
theorem ok__law_is_integer (T : Txt K mg)  : FnOk P w K mg base CX0 1 T.a__law_is_integer T.fd__law_is_integer ["_law_actual"] (spD K (S__law_is_integer K)) := by
  refine fnD T.F__law_is_integer sc__law_is_integer ?len fun cdv A outer s H E hr => ?body
  case len => intro dvs o R X h; first | (obtain ⟨rfl, _⟩ := h; rfl) | (obtain ⟨_, rfl, _⟩ := h; rfl) | (obtain ⟨_, _, rfl, _⟩ := h; rfl) | (obtain ⟨_, _, _, rfl, _⟩ := h; rfl) | (obtain ⟨_, _, _, _, rfl, _⟩ := h; rfl) | (obtain ⟨_, _, _, _, _, rfl, _⟩ := h; rfl) | (obtain ⟨_, _, _, _, _, _, rfl, _⟩ := h; rfl)
  have nd := sc__law_is_integer.nd
  have hu := hu_of hr
  refine ⟨_, (pss_one (ps_ret (pe_and (pe_callB (DL.call_isiK (K := K) rfl) (by rfl) T.n_isinstance (by decide +kernel) (pa_cons (pv 0) (pa_cons (pe_bltn (v := .ty "int") (by rfl) T.n_int (by decide +kernel) rfl) pa_nil))) (pe_one (pe_not (pe_callB (DL.call_isiK (K := K) rfl) (by rfl) T.n_isinstance (by decide +kernel) (pa_cons (pv 0) (pa_cons (pe_bltn (v := .ty "bool") (by rfl) T.n_bool (by decide +kernel) rfl) pa_nil)))))))), ?_⟩
  intro dvs o R X h
  have st : ∀ z, dvs = z → startD N__law_is_integer.length dvs = startD 1 z := fun z e => by rw [e]; rfl
  obtain ⟨n, rfl, q⟩ := h
  rw [st _ rfl]; clear st; simp only [startD, toSl, List.map_cons, List.map_nil, List.length_cons, List.length_nil, List.cons_append, List.nil_append, List.append_nil, Nat.reduceAdd, Nat.reduceSub, List.reduceReplicate, Nat.zero_add, List.replicate_zero, Nat.sub_self]
  repeat array_get_dec
  exact q
theorem ok__law_same_items (T : Txt K mg) (n : Nat) (G__law_same : ∀ m, n = m + 1 → FnOk P w K mg base CX0 (2 * n) T.a__law_same T.fd__law_same ["_law_actual", "_law_expected"] (spD K (S__law_same m K))) :
    FnOk P w K mg base CX0 (2 * n + 1) T.a__law_same_items T.fd__law_same_items ["_law_actual", "_law_expected"] (spD K (S__law_same_items n K)) := by
  cases n with
  | zero => exact ⟨fun vs H Q E ⟨G, o, dvs, R, X, wd, a, ⟨m, d, ds, _, z, _⟩, q⟩ => (nomatch z), fun A outer s H args us vs Q E _ _ _ _ ⟨G, o, dvs, R, X, wd, a, ⟨m, d, ds, _, z, _⟩, q⟩ => nomatch z⟩
  | succ m =>
  have G__law_same := G__law_same m rfl
  refine fnD T.F__law_same_items sc__law_same_items ?len fun cdv A outer s H E hr => ?body
  case len => intro dvs o R X h; first | (obtain ⟨rfl, _⟩ := h; rfl) | (obtain ⟨_, rfl, _⟩ := h; rfl) | (obtain ⟨_, _, rfl, _⟩ := h; rfl) | (obtain ⟨_, _, _, rfl, _⟩ := h; rfl) | (obtain ⟨_, _, _, _, rfl, _⟩ := h; rfl) | (obtain ⟨_, _, _, _, _, rfl, _⟩ := h; rfl) | (obtain ⟨_, _, _, _, _, _, rfl, _⟩ := h; rfl)
  have nd := sc__law_same_items.nd
  have hu := hu_of hr
  refine ⟨_, (pss_cons (ps_if (pt_cmpR (DL.op_neK (K := K) rfl hr.units) (pe_callB (DL.call_lenK (K := K) rfl) (by rfl) T.n_len (by decide +kernel) (pa_cons (pv 0) pa_nil)) (pe_callB (DL.call_lenK (K := K) rfl) (by rfl) T.n_len (by decide +kernel) (pa_cons (pv 1) pa_nil)) (nomark _)) (pss_one (ps_ret pe_bl)) pss_nil) (pss_cons (ps_for PassesOwn.never rfl (pi_range1 (by rfl) T.n_range (pa_cons (pe_callB (DL.call_lenK (K := K) rfl) (by rfl) T.n_len (by decide +kernel) (pa_cons (pv 1) pa_nil)) pa_nil)) (pg_name (i := 2) nd rfl (Or.inl rfl)) (pss_one (ps_if (pt_not (pt_val (pe_call G__law_same (hr.mono (by first | decide | omega)) (by rfl) T.g__law_same T.F__law_same.kp T.b__law_same .nil pass0 (pa_cons (pe_ix (DL.ix_K (K := K) rfl) (pv 0) (pv 2) (fun _ _ => rfl)) (pa_cons (pe_ix (DL.ix_K (K := K) rfl) (pv 1) (pv 2) (fun _ _ => rfl)) pa_nil))))) (pss_one (ps_ret pe_bl)) pss_nil))) (pss_one (ps_ret pe_bl)))), ?_⟩
  intro dvs o R X h
  have st : ∀ z, dvs = z → startD N__law_same_items.length dvs = startD 3 z := fun z e => by rw [e]; rfl
  obtain ⟨m', d, ds, rfl, hm, hd, hl, hs, q⟩ := h
  cases hm
  rw [st _ rfl]; clear st; simp only [startD, toSl, List.map_cons, List.map_nil, List.length_cons, List.length_nil, List.cons_append, List.nil_append, List.append_nil, Nat.reduceAdd, Nat.reduceSub, List.reduceReplicate, Nat.zero_add, List.replicate_zero, Nat.sub_self]
  repeat array_get_dec
  refine xc_lenQ hd ?_
  repeat array_get_dec
  refine xc_lenQ hd ?_
  repeat array_get_dec
  refine bs_nd (fun h => absurd rfl h) fun _ => ?_
  repeat array_get_dec
  refine xs_forR1 (xa_cons (xe_cb (xa_cons (xe_vd rfl (xa_nil ⟨trivial, xc_lenQ hd ?_⟩)))))
  repeat array_get_dec
  refine ⟨by omega, by omega, fun k ρ' o' => o' = o ∧ ∃ x, ρ' = [.val d, .val d, x], ⟨rfl, _, rfl⟩, ?_, ?_⟩
  · rintro k ρ' o' hk ⟨rfl, x, rfl⟩
    refine xg_nd ?_
    have hk : k < ds.length := by omega
    have at_k : atI ds (0 + (k : Int)) = some ds[k] := atD_of (j := k) (show (0 : Int) + (k : Int) = (k : Int) by omega) (List.getElem?_eq_getElem hk)
    repeat array_get_dec
    refine xr_ixQ hd at_k ?_
    repeat array_get_dec
    refine xr_ixQ hd at_k ?_
    repeat array_get_dec
    refine ⟨ds[k], rfl, hs _ (List.getElem_mem _), ?_⟩
    repeat array_get_dec
    exact ⟨_, rfl⟩
  · rintro ρ' o' ⟨rfl, x, rfl⟩
    repeat array_get_dec
    exact q
theorem ok__law_same (T : Txt K mg) (n : Nat) (G__law_is_integer : FnOk P w K mg base CX0 1 T.a__law_is_integer T.fd__law_is_integer ["_law_actual"] (spD K (S__law_is_integer K)))
    (G__law_same_items : FnOk P w K mg base CX0 (2 * n + 1) T.a__law_same_items T.fd__law_same_items ["_law_actual", "_law_expected"] (spD K (S__law_same_items n K))) :
    FnOk P w K mg base CX0 (2 * n + 2) T.a__law_same T.fd__law_same ["_law_actual", "_law_expected"] (spD K (S__law_same n K)) := by
  have G__law_same : FnOk P w K mg base CX0 (2 * n + 1) T.a__law_same T.fd__law_same ["_law_actual", "_law_expected"] (spD K (S_never K)) := never_ok
  refine fnD T.F__law_same sc__law_same ?len fun cdv A outer s H E hr => ?body
  case len => intro dvs o R X h; first | (obtain ⟨rfl, _⟩ := h; rfl) | (obtain ⟨_, rfl, _⟩ := h; rfl) | (obtain ⟨_, _, rfl, _⟩ := h; rfl) | (obtain ⟨_, _, _, rfl, _⟩ := h; rfl) | (obtain ⟨_, _, _, _, rfl, _⟩ := h; rfl) | (obtain ⟨_, _, _, _, _, rfl, _⟩ := h; rfl) | (obtain ⟨_, _, _, _, _, _, rfl, _⟩ := h; rfl)
  have nd := sc__law_same.nd
  have hu := hu_of hr
  refine ⟨_, (pss_cons (ps_if (pt_cmpR op_isN (pv 1) pe_non (nomark _)) (pss_one (ps_ret (pe_cmpR op_isN (pv 0) pe_non (nomark _)))) pss_nil) (pss_cons (ps_if (pt_val (pe_callB (DL.call_isiK (K := K) rfl) (by rfl) T.n_isinstance (by decide +kernel) (pa_cons (pv 1) (pa_cons (pe_bltn (v := .ty "bool") (by rfl) T.n_bool (by decide +kernel) rfl) pa_nil)))) (pss_one (ps_ret (pe_and (pe_callB (DL.call_isiK (K := K) rfl) (by rfl) T.n_isinstance (by decide +kernel) (pa_cons (pv 0) (pa_cons (pe_bltn (v := .ty "bool") (by rfl) T.n_bool (by decide +kernel) rfl) pa_nil))) (pe_one (pe_cmpR (DL.op_eqK (K := K) rfl hr.units) (pv 0) (pv 1) (nomark _)))))) pss_nil) (pss_cons (ps_if (pt_val (pe_callB (DL.call_isiK (K := K) rfl) (by rfl) T.n_isinstance (by decide +kernel) (pa_cons (pv 1) (pa_cons (pe_bltn (v := .ty "int") (by rfl) T.n_int (by decide +kernel) rfl) pa_nil)))) (pss_one (ps_ret (pe_and (pe_call G__law_is_integer (hr.mono (by first | decide | omega)) (by rfl) T.g__law_is_integer T.F__law_is_integer.kp T.b__law_is_integer .nil pass0 (pa_cons (pv 0) pa_nil)) (pe_one (pe_cmpR (DL.op_eqK (K := K) rfl hr.units) (pv 0) (pv 1) (nomark _)))))) pss_nil) (pss_cons (ps_if (pt_val (pe_callB (DL.call_isiK (K := K) rfl) (by rfl) T.n_isinstance (by decide +kernel) (pa_cons (pv 1) (pa_cons (pe_bltn (v := .ty "str") (by rfl) T.n_str (by decide +kernel) rfl) pa_nil)))) (pss_one (ps_ret (pe_and (pe_callB (DL.call_isiK (K := K) rfl) (by rfl) T.n_isinstance (by decide +kernel) (pa_cons (pv 0) (pa_cons (pe_bltn (v := .ty "str") (by rfl) T.n_str (by decide +kernel) rfl) pa_nil))) (pe_one (pe_cmpR (DL.op_eqK (K := K) rfl hr.units) (pv 0) (pv 1) (nomark _)))))) pss_nil) (pss_cons (ps_if (pt_val (pe_callB (DL.call_isiK (K := K) rfl) (by rfl) T.n_isinstance (by decide +kernel) (pa_cons (pv 1) (pa_cons (pe_bltn (v := .ty "tuple") (by rfl) T.n_tuple (by decide +kernel) rfl) pa_nil)))) (pss_one (ps_ret (pe_and (pe_callB (DL.call_isiK (K := K) rfl) (by rfl) T.n_isinstance (by decide +kernel) (pa_cons (pv 0) (pa_cons (pe_bltn (v := .ty "tuple") (by rfl) T.n_tuple (by decide +kernel) rfl) pa_nil))) (pe_one (pe_call G__law_same_items (hr.mono (by first | decide | omega)) (by rfl) T.g__law_same_items T.F__law_same_items.kp T.b__law_same_items .nil pass0 (pa_cons (pv 0) (pa_cons (pv 1) pa_nil))))))) pss_nil) (pss_cons (ps_if (pt_val (pe_callB (DL.call_isiK (K := K) rfl) (by rfl) T.n_isinstance (by decide +kernel) (pa_cons (pv 1) (pa_cons (pe_bltn (v := .ty "list") (by rfl) T.n_list (by decide +kernel) rfl) pa_nil)))) (pss_one (ps_ret (pe_and (pe_callB (DL.call_isiK (K := K) rfl) (by rfl) T.n_isinstance (by decide +kernel) (pa_cons (pv 0) (pa_cons (pe_bltn (v := .ty "list") (by rfl) T.n_list (by decide +kernel) rfl) pa_nil))) (pe_one (pe_call G__law_same_items (hr.mono (by first | decide | omega)) (by rfl) T.g__law_same_items T.F__law_same_items.kp T.b__law_same_items .nil pass0 (pa_cons (pv 0) (pa_cons (pv 1) pa_nil))))))) pss_nil) (pss_cons (ps_if (PW.pt (pw_or (pt_not (pt_val (pe_callB (DL.call_isiK (K := K) rfl) (by rfl) T.n_isinstance (by decide +kernel) (pa_cons (pv 0) (pa_cons (pe_bltn (v := .ty "dict") (by rfl) T.n_dict (by decide +kernel) rfl) pa_nil))))) (pw_or1 (pt_cmpR (DL.op_neK (K := K) rfl hr.units) (pe_callB (DL.call_lenK (K := K) rfl) (by rfl) T.n_len (by decide +kernel) (pa_cons (pv 0) pa_nil)) (pe_callB (DL.call_lenK (K := K) rfl) (by rfl) T.n_len (by decide +kernel) (pa_cons (pv 1) pa_nil)) (nomark _))))) (pss_one (ps_ret pe_bl)) pss_nil) (pss_cons (ps_for PassesOwn.never rfl (DL.pi_listK (K := K) rfl (pi_list (pv 1))) (pg_name (i := 2) nd rfl (Or.inl rfl)) (pss_one (ps_if (PW.pt (pw_or (pt_cmpR (DL.op_notInK (K := K) rfl) (pv 2) (pv 0) (by rfl)) (pw_or1 (pt_not (pt_val (pe_call G__law_same (hr.mono (by first | decide | omega)) (by rfl) T.g__law_same T.F__law_same.kp T.b__law_same .nil pass0 (pa_cons (pe_ix (DL.ix_K (K := K) rfl) (pv 0) (pv 2) (fun _ _ => rfl)) (pa_cons (pe_ix (DL.ix_K (K := K) rfl) (pv 1) (pv 2) (fun _ _ => rfl)) pa_nil)))))))) (pss_one (ps_ret pe_bl)) pss_nil))) (pss_cons (ps_for PassesOwn.never rfl (DL.pi_listK (K := K) rfl (pi_list (pv 0))) (pg_name (i := 2) nd rfl (Or.inl rfl)) (pss_one (ps_if (pt_val (pe_callB (DL.call_isiK (K := K) rfl) (by rfl) T.n_isinstance (by decide +kernel) (pa_cons (pv 2) (pa_cons (pe_bltn (v := .ty "bool") (by rfl) T.n_bool (by decide +kernel) rfl) pa_nil)))) (pss_one (ps_ret pe_bl)) pss_nil))) (pss_one (ps_ret pe_bl))))))))))), ?_⟩
  intro dvs o R X h
  have st : ∀ z, dvs = z → startD N__law_same.length dvs = startD 3 z := fun z e => by rw [e]; rfl
  obtain ⟨d, rfl, sm, q⟩ := h
  rw [st _ rfl]; clear st; simp only [startD, toSl, List.map_cons, List.map_nil, List.length_cons, List.length_nil, List.cons_append, List.nil_append, List.append_nil, Nat.reduceAdd, Nat.reduceSub, List.reduceReplicate, Nat.zero_add, List.replicate_zero, Nat.sub_self]
  cases sm with
  | non =>
    repeat array_get_dec
    exact q
  | bl =>
    repeat array_get_dec
    simpa using q
  | int =>
    repeat array_get_dec
    refine ⟨_, rfl, ?_⟩
    repeat array_get_dec
    simpa using q
  | str =>
    repeat array_get_dec
    simpa using q
  | @tup m ds l h =>
    repeat array_get_dec
    exact ⟨m, .tuple ds, ds, rfl, rfl, .inl rfl, l, h, q⟩
  | @lst m ds l h =>
    repeat array_get_dec
    exact ⟨m, .list ds, ds, rfl, rfl, .inr rfl, l, h, q⟩
theorem same_all (T : Txt K mg) (n : Nat) : FnOk P w K mg base CX0 (2 * n + 2) T.a__law_same T.fd__law_same ["_law_actual", "_law_expected"] (spD K (S__law_same n K)) := by
  have Gi : FnOk P w K mg base CX0 1 T.a__law_is_integer T.fd__law_is_integer ["_law_actual"] (spD K (S__law_is_integer K)) := ok__law_is_integer T
  induction n with
  | zero => exact ok__law_same T 0 Gi (ok__law_same_items T 0 fun m h => nomatch h)
  | succ n ih => exact ok__law_same T (n + 1) Gi (ok__law_same_items T (n + 1) fun m h => by
      cases h
      exact ih)
end

section
variable {P : Program} {w : World} {K : PySem.W.Frag} {mg : Str → Option Value} {base : Heap}
theorem ok__law_snippet (T : Txt K mg) (G__law_take : FnOk P w K mg base CX0 1 T.a__law_take T.fd__law_take ["_law_tape_here", "_law_many"] (spD K (S__law_take K))) : FnOk P w K mg base CX0 2 T.a__law_snippet T.fd__law_snippet ["_law_tape_here"] (spD K (S__law_snippet K)) := by
  refine fnD T.F__law_snippet sc__law_snippet ?len fun cdv A outer s H E hr => ?body
  case len => intro dvs o R X h; first | (obtain ⟨rfl, _⟩ := h; rfl) | (obtain ⟨_, rfl, _⟩ := h; rfl) | (obtain ⟨_, _, rfl, _⟩ := h; rfl) | (obtain ⟨_, _, _, rfl, _⟩ := h; rfl) | (obtain ⟨_, _, _, _, rfl, _⟩ := h; rfl) | (obtain ⟨_, _, _, _, _, rfl, _⟩ := h; rfl) | (obtain ⟨_, _, _, _, _, _, rfl, _⟩ := h; rfl)
  have nd := sc__law_snippet.nd
  have hu := hu_of hr
  refine ⟨_, (pss_cons (ps_set (i := 1) nd rfl (Or.inr rfl) (pe_lst (pa_cons pe_str (pa_cons pe_str (pa_cons pe_str (pa_cons pe_str (pa_cons pe_str (pa_cons pe_str (pa_cons pe_str (pa_cons pe_str (pa_cons pe_str (pa_cons pe_str (pa_cons pe_str (pa_cons pe_str (pa_cons pe_str (pa_cons pe_str (pa_cons pe_str (pa_cons pe_str pa_nil)))))))))))))))))) (pss_cons (ps_set (i := 1) nd rfl (Or.inr rfl) (pe_op (DL.op_addK (K := K) rfl) (pv 1) (pe_lst (pa_cons pe_str (pa_cons pe_str (pa_cons pe_str (pa_cons pe_str (pa_cons pe_str (pa_cons pe_str (pa_cons pe_str (pa_cons pe_str (pa_cons pe_str (pa_cons pe_str (pa_cons pe_str (pa_cons pe_str (pa_cons pe_str (pa_cons pe_str pa_nil))))))))))))))))) (pss_one (ps_ret (DL.pe_bmK (K := K) rfl (pe_bm PySem.F.plainAttrs_str PySem.F.slot_str_join PySem.F.type_str_join (DL.mt_joinK (K := K) rfl) pe_str (pa_cons (pe_lc (own := [("_law_k", 2)]) (g := (gName 2)) (tt := tYes) (by rfl) nd (pi_range1 (by rfl) T.n_range (pa_cons (pe_call G__law_take (hr.mono (by first | decide | omega)) (by rfl) T.g__law_take T.F__law_take.kp T.b__law_take .nil pass0 (pa_cons (pv 0) (pa_cons pe_int pa_nil))) pa_nil)) (blkOk_by (own := [("_law_k", 2)]) (N := N__law_snippet) (sc := defScope s__law_snippet) (by decide +kernel)) (fun _ _ _ _ _ => (pg_name (i := 2) nd rfl (Or.inl rfl))) (fun _ _ _ _ _ => pts_nil) (fun _ _ _ _ _ => (pe_ix (DL.ix_K (K := K) rfl) (pv 1) (pe_call G__law_take (hr.mono (by first | decide | omega)) (by rfl) T.g__law_take T.F__law_take.kp T.b__law_take .nil pass0 (pa_cons (pv 0) (pa_cons pe_int pa_nil))) (fun _ _ => rfl)))) pa_nil))))))), ?_⟩
  intro dvs o R X h
  have st : ∀ z, dvs = z → startD N__law_snippet.length dvs = startD 3 z := fun z e => by rw [e]; rfl
  obtain ⟨τ, rfl, rfl, q⟩ := h
  rw [st _ rfl]; clear st; simp only [startD, toSl, List.map_cons, List.map_nil, List.length_cons, List.length_nil, List.cons_append, List.nil_append, List.append_nil, Nat.reduceAdd, Nat.reduceSub, List.reduceReplicate, Nat.zero_add, List.replicate_zero, Nat.sub_self]
  repeat array_get_dec
  refine xr_addL rfl rfl (nat_small rfl) ?_
  repeat array_get_dec
  generalize hps : ([PyData.str "def ", .str "data ", .str "f", .str "x", .str "(", .str ")", .str ": Int", .str " = ", .str "1", .str " + ", .str "\n", .str "\n ", .str "#", .str " let x = ", .str " in ", .str ","] ++ [PyData.str "import ", .str "a", .str "trait ", .str "impl ", .str " for ", .str "Bool", .str "if ", .str " then ", .str " else ", .str ".", .str "==", .str "[", .str "]", .str " "]) = ps
  have all : ∀ k : Nat, k < 30 → ∃ s, ps[k]? = some (.str s) ∧ TextOk s 9 := by
    rw [← hps]
    intro k hk
    match k, hk with
    | 0, _ => exact ⟨_, rfl, textOk_of (by decide +kernel)⟩
    | 1, _ => exact ⟨_, rfl, textOk_of (by decide +kernel)⟩
    | 2, _ => exact ⟨_, rfl, textOk_of (by decide +kernel)⟩
    | 3, _ => exact ⟨_, rfl, textOk_of (by decide +kernel)⟩
    | 4, _ => exact ⟨_, rfl, textOk_of (by decide +kernel)⟩
    | 5, _ => exact ⟨_, rfl, textOk_of (by decide +kernel)⟩
    | 6, _ => exact ⟨_, rfl, textOk_of (by decide +kernel)⟩
    | 7, _ => exact ⟨_, rfl, textOk_of (by decide +kernel)⟩
    | 8, _ => exact ⟨_, rfl, textOk_of (by decide +kernel)⟩
    | 9, _ => exact ⟨_, rfl, textOk_of (by decide +kernel)⟩
    | 10, _ => exact ⟨_, rfl, textOk_of (by decide +kernel)⟩
    | 11, _ => exact ⟨_, rfl, textOk_of (by decide +kernel)⟩
    | 12, _ => exact ⟨_, rfl, textOk_of (by decide +kernel)⟩
    | 13, _ => exact ⟨_, rfl, textOk_of (by decide +kernel)⟩
    | 14, _ => exact ⟨_, rfl, textOk_of (by decide +kernel)⟩
    | 15, _ => exact ⟨_, rfl, textOk_of (by decide +kernel)⟩
    | 16, _ => exact ⟨_, rfl, textOk_of (by decide +kernel)⟩
    | 17, _ => exact ⟨_, rfl, textOk_of (by decide +kernel)⟩
    | 18, _ => exact ⟨_, rfl, textOk_of (by decide +kernel)⟩
    | 19, _ => exact ⟨_, rfl, textOk_of (by decide +kernel)⟩
    | 20, _ => exact ⟨_, rfl, textOk_of (by decide +kernel)⟩
    | 21, _ => exact ⟨_, rfl, textOk_of (by decide +kernel)⟩
    | 22, _ => exact ⟨_, rfl, textOk_of (by decide +kernel)⟩
    | 23, _ => exact ⟨_, rfl, textOk_of (by decide +kernel)⟩
    | 24, _ => exact ⟨_, rfl, textOk_of (by decide +kernel)⟩
    | 25, _ => exact ⟨_, rfl, textOk_of (by decide +kernel)⟩
    | 26, _ => exact ⟨_, rfl, textOk_of (by decide +kernel)⟩
    | 27, _ => exact ⟨_, rfl, textOk_of (by decide +kernel)⟩
    | 28, _ => exact ⟨_, rfl, textOk_of (by decide +kernel)⟩
    | 29, _ => exact ⟨_, rfl, textOk_of (by decide +kernel)⟩
    | k + 30, h => exact absurd h (by omega)
  clear hps
  refine xe_lcR (xa_cons (xe_call ?_))
  repeat array_get_dec
  refine ⟨τ, 6, rfl, rfl, by decide, by decide, fun n n0 n6 => ?_⟩
  repeat array_get_dec
  refine ⟨by omega, by omega, noow_cons ⟨rfl, fun _ z => nomatch z⟩ noow_nil, fun k acc o => o = tapeOb K τ ∧ ∃ ys : List Str, acc = ys.map .str ∧ ys.length = k ∧ ∀ s ∈ ys, TextOk s 9, ⟨rfl, [], rfl, rfl, fun _ h => nomatch h⟩, ?_, ?_⟩
  · rintro k acc _ hk hl ⟨rfl, ys, rfl, hy, hs⟩
    refine ⟨_, bt_name, ?_⟩
    unfold LcTurn
    repeat array_get_dec
    refine ⟨τ, 30, rfl, rfl, by decide, by decide, fun m m0 m30 => ?_⟩
    repeat array_get_dec
    obtain ⟨s, h1, h2⟩ := all m.toNat (by omega)
    refine xr_ixL rfl (atD_of (j := m.toNat) (show m = (m.toNat : Int) by omega) h1) ?_
    repeat array_get_dec
    refine ⟨?_, rfl, ys ++ [s], by simp, by rw [List.length_append, hy]; rfl, fun z hz => ?_⟩
    · refine nat_small (Nat.ble_eq.mpr ?_)
      rw [List.length_append, List.length_map, hy, List.length_singleton]
      omega
    · rcases List.mem_append.mp hz with hz | hz
      · exact hs z hz
      · rw [List.mem_singleton.mp hz]; exact h2
  · rintro acc _ hl ⟨rfl, ys, rfl, hy, hs⟩
    repeat array_get_dec
    have hy5 : ys.length ≤ 5 := by omega
    refine xm_join rfl (join_room hs hy5 (by decide)) ?_
    repeat array_get_dec
    exact q _ ((TextOk.join hs hy5).mono (by decide))
theorem ok__law_char (T : Txt K mg) (G__law_take : FnOk P w K mg base CX0 1 T.a__law_take T.fd__law_take ["_law_tape_here", "_law_many"] (spD K (S__law_take K))) : FnOk P w K mg base CX0 2 T.a__law_char T.fd__law_char ["_law_tape_here"] (spD K (S__law_char K)) := by
  refine fnD T.F__law_char sc__law_char ?len fun cdv A outer s H E hr => ?body
  case len => intro dvs o R X h; first | (obtain ⟨rfl, _⟩ := h; rfl) | (obtain ⟨_, rfl, _⟩ := h; rfl) | (obtain ⟨_, _, rfl, _⟩ := h; rfl) | (obtain ⟨_, _, _, rfl, _⟩ := h; rfl) | (obtain ⟨_, _, _, _, rfl, _⟩ := h; rfl) | (obtain ⟨_, _, _, _, _, rfl, _⟩ := h; rfl) | (obtain ⟨_, _, _, _, _, _, rfl, _⟩ := h; rfl)
  have nd := sc__law_char.nd
  have hu := hu_of hr
  refine ⟨_, (pss_cons (ps_set (i := 1) nd rfl (Or.inl rfl) pe_str) (pss_cons (ps_set (i := 1) nd rfl (Or.inl rfl) (pe_op (DL.op_addK (K := K) rfl) (pv 1) pe_str)) (pss_one (ps_ret (pe_ix (DL.ix_K (K := K) rfl) (pv 1) (pe_call G__law_take (hr.mono (by first | decide | omega)) (by rfl) T.g__law_take T.F__law_take.kp T.b__law_take .nil pass0 (pa_cons (pv 0) (pa_cons pe_int pa_nil))) (fun _ _ => rfl)))))), ?_⟩
  intro dvs o R X h
  have st : ∀ z, dvs = z → startD N__law_char.length dvs = startD 2 z := fun z e => by rw [e]; rfl
  obtain ⟨τ, rfl, rfl, q⟩ := h
  rw [st _ rfl]; clear st; simp only [startD, toSl, List.map_cons, List.map_nil, List.length_cons, List.length_nil, List.cons_append, List.nil_append, List.append_nil, Nat.reduceAdd, Nat.reduceSub, List.reduceReplicate, Nat.zero_add, List.replicate_zero, Nat.sub_self]
  repeat array_get_dec
  refine xr_addS (by decide +kernel) ?_
  repeat array_get_dec
  refine ⟨τ, 95, rfl, rfl, by decide, by decide, fun k h0 h1 => ?_⟩
  repeat array_get_dec
  have hall : TextOk (" !\"#$&'()*+,-./0123456789:;<=>?@ABCDEFGHIJKLMNOPQRSTUVWXYZ[\\]^" ++ "_`abcdefghijklmnopqrstuvwxyz{|}~\n") 95 := textOk_of (by decide +kernel)
  have hlen : ((" !\"#$&'()*+,-./0123456789:;<=>?@ABCDEFGHIJKLMNOPQRSTUVWXYZ[\\]^" : Str) ++ ("_`abcdefghijklmnopqrstuvwxyz{|}~\n" : Str)).length = 95 := by decide +kernel
  generalize ((" !\"#$&'()*+,-./0123456789:;<=>?@ABCDEFGHIJKLMNOPQRSTUVWXYZ[\\]^" : Str) ++ ("_`abcdefghijklmnopqrstuvwxyz{|}~\n" : Str)) = z at hall hlen ⊢
  rw [len_tl] at hlen
  have hk : k.toNat < (TL.tl z).length := by omega
  refine xr_ixS (by rw [len_tl, hlen, sizeLine_eq]; decide) (atD_of (j := k.toNat) (show k = (k.toNat : Int) by omega) (List.getElem?_eq_getElem hk)) ?_
  repeat array_get_dec
  exact q _ ⟨Nat.le_refl 1, fun c hc => hall.ok c (by
    have : c = (TL.tl z)[k.toNat] := by simpa using hc
    rw [this]
    exact List.getElem_mem hk)⟩
theorem ok__law_any_text (T : Txt K mg) (G__law_char : FnOk P w K mg base CX0 2 T.a__law_char T.fd__law_char ["_law_tape_here"] (spD K (S__law_char K))) (G__law_snippet : FnOk P w K mg base CX0 2 T.a__law_snippet T.fd__law_snippet ["_law_tape_here"] (spD K (S__law_snippet K))) (G__law_take : FnOk P w K mg base CX0 1 T.a__law_take T.fd__law_take ["_law_tape_here", "_law_many"] (spD K (S__law_take K))) : FnOk P w K mg base CX0 3 T.a__law_any_text T.fd__law_any_text ["_law_tape_here", "_law_most"] (spD K (S__law_any_text K)) := by
  refine fnD T.F__law_any_text sc__law_any_text ?len fun cdv A outer s H E hr => ?body
  case len => intro dvs o R X h; first | (obtain ⟨rfl, _⟩ := h; rfl) | (obtain ⟨_, rfl, _⟩ := h; rfl) | (obtain ⟨_, _, rfl, _⟩ := h; rfl) | (obtain ⟨_, _, _, rfl, _⟩ := h; rfl) | (obtain ⟨_, _, _, _, rfl, _⟩ := h; rfl) | (obtain ⟨_, _, _, _, _, rfl, _⟩ := h; rfl) | (obtain ⟨_, _, _, _, _, _, rfl, _⟩ := h; rfl)
  have nd := sc__law_any_text.nd
  have hu := hu_of hr
  refine ⟨_, (pss_cons (ps_set (i := 2) nd rfl (Or.inl rfl) (pe_lst pa_nil)) (pss_cons (ps_for PassesOwn.never rfl (pi_range1 (by rfl) T.n_range (pa_cons (pe_call G__law_take (hr.mono (by first | decide | omega)) (by rfl) T.g__law_take T.F__law_take.kp T.b__law_take .nil pass0 (pa_cons (pv 0) (pa_cons (pe_op (DL.op_addK (K := K) rfl) (pv 1) pe_int) pa_nil))) pa_nil)) (pg_name (i := 3) nd rfl (Or.inl rfl)) (pss_one (ps_if (pt_cmpR (DL.op_eqK (K := K) rfl hr.units) (pe_call G__law_take (hr.mono (by first | decide | omega)) (by rfl) T.g__law_take T.F__law_take.kp T.b__law_take .nil pass0 (pa_cons (pv 0) (pa_cons pe_int pa_nil))) pe_int (nomark _)) (pss_one (ps_expr (DL.pe_bmK (K := K) rfl (pe_bm PySem.F.plainAttrs_list PySem.F.slot_list_append PySem.F.type_list_append mt_append (pv 2) (pa_cons (pe_call G__law_char (hr.mono (by first | decide | omega)) (by rfl) T.g__law_char T.F__law_char.kp T.b__law_char .nil pass0 (pa_cons (pv 0) pa_nil)) pa_nil))))) (pss_one (ps_expr (DL.pe_bmK (K := K) rfl (pe_bm PySem.F.plainAttrs_list PySem.F.slot_list_append PySem.F.type_list_append mt_append (pv 2) (pa_cons (pe_call G__law_snippet (hr.mono (by first | decide | omega)) (by rfl) T.g__law_snippet T.F__law_snippet.kp T.b__law_snippet .nil pass0 (pa_cons (pv 0) pa_nil)) pa_nil)))))))) (pss_one (ps_ret (DL.pe_bmK (K := K) rfl (pe_bm PySem.F.plainAttrs_str PySem.F.slot_str_join PySem.F.type_str_join (DL.mt_joinK (K := K) rfl) pe_str (pa_cons (pv 2) pa_nil))))))), ?_⟩
  intro dvs o R X h
  have st : ∀ z, dvs = z → startD N__law_any_text.length dvs = startD 4 z := fun z e => by rw [e]; rfl
  obtain ⟨τ, n, rfl, rfl, h0, h1, q⟩ := h
  rw [st _ rfl]; clear st; simp only [startD, toSl, List.map_cons, List.map_nil, List.length_cons, List.length_nil, List.cons_append, List.nil_append, List.append_nil, Nat.reduceAdd, Nat.reduceSub, List.reduceReplicate, Nat.zero_add, List.replicate_zero, Nat.sub_self]
  repeat array_get_dec
  refine xs_forR1 (xa_cons (xe_call ?_))
  repeat array_get_dec
  refine ⟨τ, n + 1, rfl, rfl, by omega, by omega, fun m m0 m6 => ?_⟩
  repeat array_get_dec
  refine ⟨by omega, by omega, fun k ρ' o' => o' = tapeOb K τ ∧ ∃ (x : Sl) (ys : List Str), ρ' = [.raw (.ref τ), .val (.int n), .own (.lst (ys.map .str)), x] ∧ ys.length = k ∧ ∀ s ∈ ys, TextOk s 50, ⟨rfl, _, [], rfl, rfl, fun _ h => nomatch h⟩, ?_, ?_⟩
  · rintro k _ _ hk ⟨rfl, x, ys, rfl, hy, hs⟩
    refine xg_nd ?_
    repeat array_get_dec
    refine ⟨τ, 3, rfl, rfl, by decide, by decide, fun c c0 c3 => ?_⟩
    repeat array_get_dec
    have room : (ys.map PyData.str).length < sizeLine := by rw [List.length_map, hy]; exact small1000 (by omega)
    have more : ∀ s, TextOk s 50 → ∃ zs : List Str, ys.map PyData.str ++ [.str s] = zs.map .str ∧ zs.length = k + 1 ∧ ∀ s ∈ zs, TextOk s 50 := fun s hz => ⟨ys ++ [s], by simp, by rw [List.length_append, hy]; rfl, fun z hz' => by
      rcases List.mem_append.mp hz' with h | h
      · exact hs z h
      · rw [List.mem_singleton.mp h]; exact hz⟩
    refine bs_d (fun hc => ?_) fun hc => ?_
    · repeat array_get_dec
      refine ⟨τ, rfl, rfl, fun s hz => ?_⟩
      repeat array_get_dec
      obtain ⟨zs, e1, e2, e3⟩ := more s (hz.mono (by decide))
      refine xm_append room rfl ?_
      rw [e1]
      repeat array_get_dec
      exact ⟨_, zs, rfl, e2, e3⟩
    · repeat array_get_dec
      refine ⟨τ, rfl, rfl, fun s hz => ?_⟩
      repeat array_get_dec
      obtain ⟨zs, e1, e2, e3⟩ := more s hz
      refine xm_append room rfl ?_
      rw [e1]
      repeat array_get_dec
      exact ⟨_, zs, rfl, e2, e3⟩
  · rintro _ _ ⟨rfl, x, ys, rfl, hy, hs⟩
    repeat array_get_dec
    have hyn : ys.length ≤ n.toNat := by omega
    refine xm_join rfl (join_room hs hyn (by omega)) ?_
    repeat array_get_dec
    exact q _ (TextOk.join hs hyn)
end

section
variable {P : Program} {w : World} {K : PySem.W.Frag} {mg : Str → Option Value} {base : Heap}
theorem ok__law_copy (T : Txt K mg) (n : Nat) (S : PySem.W.Frag → DS) (hS : ∀ m, n = m + 1 → S = S__law_copy m) (G__law_copy : FnOk P w K mg base CX0 n T.a__law_copy T.fd__law_copy ["_law_thing"] (spD K (S K))) :
    FnOk P w K mg base CX0 (n + 1) T.a__law_copy T.fd__law_copy ["_law_thing"] (spD K (S__law_copy n K)) := by
  refine fnD T.F__law_copy sc__law_copy ?len fun cdv A outer s H E hr => ?body
  case len => intro dvs o R X h; first | (obtain ⟨rfl, _⟩ := h; rfl) | (obtain ⟨_, rfl, _⟩ := h; rfl) | (obtain ⟨_, _, rfl, _⟩ := h; rfl) | (obtain ⟨_, _, _, rfl, _⟩ := h; rfl) | (obtain ⟨_, _, _, _, rfl, _⟩ := h; rfl) | (obtain ⟨_, _, _, _, _, rfl, _⟩ := h; rfl) | (obtain ⟨_, _, _, _, _, _, rfl, _⟩ := h; rfl)
  have nd := sc__law_copy.nd
  have hu := hu_of hr
  refine ⟨_, (pss_cons (ps_if (pt_val (pe_callB (DL.call_isiK (K := K) rfl) (by rfl) T.n_isinstance (by decide +kernel) (pa_cons (pv 0) (pa_cons (pe_bltn (v := .ty "list") (by rfl) T.n_list (by decide +kernel) rfl) pa_nil)))) (pss_one (ps_ret (pe_lc (own := [("_law_item", 3)]) (g := (gName 3)) (tt := tYes) (by rfl) nd (DL.pi_seqK (K := K) rfl (pv 0)) (blkOk_by (own := [("_law_item", 3)]) (N := N__law_copy) (sc := defScope s__law_copy) (by decide +kernel)) (fun _ _ _ _ _ => (pg_name (i := 3) nd rfl (Or.inl rfl))) (fun _ _ _ _ _ => pts_nil) (fun _ _ _ _ _ => (pe_call G__law_copy (hr.mono (by first | decide | omega)) (by rfl) T.g__law_copy T.F__law_copy.kp T.b__law_copy .nil pass0 (pa_cons (pv 3) pa_nil)))))) pss_nil) (pss_cons (ps_if (pt_val (pe_callB (DL.call_isiK (K := K) rfl) (by rfl) T.n_isinstance (by decide +kernel) (pa_cons (pv 0) (pa_cons (pe_bltn (v := .ty "tuple") (by rfl) T.n_tuple (by decide +kernel) rfl) pa_nil)))) (pss_one (ps_ret (pe_callTy (DL.call_tupK (K := K) rfl) (by rfl) T.n_tuple (by decide +kernel) (pa_cons (pe_lc (own := [("_law_item", 3)]) (g := (gName 3)) (tt := tYes) (by rfl) nd (DL.pi_seqK (K := K) rfl (pv 0)) (blkOk_by (own := [("_law_item", 3)]) (N := N__law_copy) (sc := defScope s__law_copy) (by decide +kernel)) (fun _ _ _ _ _ => (pg_name (i := 3) nd rfl (Or.inl rfl))) (fun _ _ _ _ _ => pts_nil) (fun _ _ _ _ _ => (pe_call G__law_copy (hr.mono (by first | decide | omega)) (by rfl) T.g__law_copy T.F__law_copy.kp T.b__law_copy .nil pass0 (pa_cons (pv 3) pa_nil)))) pa_nil)))) pss_nil) (pss_cons (ps_if (pt_val (pe_callB (DL.call_isiK (K := K) rfl) (by rfl) T.n_isinstance (by decide +kernel) (pa_cons (pv 0) (pa_cons (pe_bltn (v := .ty "dict") (by rfl) T.n_dict (by decide +kernel) rfl) pa_nil)))) (pss_cons (ps_set (i := 1) nd rfl (Or.inl rfl) (pe_dnewK)) (pss_cons (ps_for PassesOwn.never rfl (DL.pi_seqK (K := K) rfl (pv 0)) (pg_name (i := 2) nd rfl (Or.inl rfl)) (pss_one (ps_asg (pe_call G__law_copy (hr.mono (by first | decide | omega)) (by rfl) T.g__law_copy T.F__law_copy.kp T.b__law_copy .nil pass0 (pa_cons (pe_ix (DL.ix_K (K := K) rfl) (pv 0) (pv 2) (fun _ _ => rfl)) pa_nil)) (pg_sub (pv 1) (pv 2) set_list)))) (pss_one (ps_ret (pv 1))))) pss_nil) (pss_one (ps_ret (pv 0)))))), ?_⟩
  intro dvs o R X h
  have st : ∀ z, dvs = z → startD N__law_copy.length dvs = startD 4 z := fun z e => by rw [e]; rfl
  obtain ⟨d, rfl, sm, q⟩ := h
  rw [st _ rfl]; clear st; simp only [startD, toSl, List.map_cons, List.map_nil, List.length_cons, List.length_nil, List.cons_append, List.nil_append, List.append_nil, Nat.reduceAdd, Nat.reduceSub, List.reduceReplicate, Nat.zero_add, List.replicate_zero, Nat.sub_self]
  have hs : sizeLine = 16777216 := sizeLine_eq
  cases sm with
  | non =>
    repeat array_get_dec
    refine xc_isi ki_dict_non ?_
    repeat array_get_dec
    refine xc_isi ki_dict_non ?_
    repeat array_get_dec
    refine xc_isi ki_dict_non ?_
    repeat array_get_dec
    exact q
  | bl =>
    repeat array_get_dec
    refine xc_isi ki_dict_bool ?_
    repeat array_get_dec
    exact q
  | int =>
    repeat array_get_dec
    refine xc_isi ki_dict_int ?_
    repeat array_get_dec
    exact q
  | str =>
    repeat array_get_dec
    refine xc_isi ki_dict_str ?_
    repeat array_get_dec
    exact q
  | @tup m ds l h =>
    obtain rfl := hS m rfl
    repeat array_get_dec
    refine xe_seqT (xe_lcFT id ds (fun _ => true) id (xf_vd rfl ⟨by rw [List.map_id], noow_cons ⟨rfl, fun _ z => nomatch z⟩ noow_nil, by omega, fun x hx => ⟨_, bt_name, ?_⟩, ?_⟩))
    · unfold LcOne
      repeat array_get_dec
      intro _
      repeat array_get_dec
      refine ⟨x, rfl, h x hx, fz_cp ?_⟩
      repeat array_get_dec
      rfl
    · rw [filterAll, List.map_id]
      repeat array_get_dec
      refine xc_tupL isl_n ?_
      repeat array_get_dec
      exact q
  | @lst m ds l h =>
    obtain rfl := hS m rfl
    repeat array_get_dec
    refine xe_seqL (xe_lcF id ds (fun _ => true) id (xf_vd rfl ⟨by rw [List.map_id], noow_cons ⟨rfl, fun _ z => nomatch z⟩ noow_nil, by omega, fun x hx => ⟨_, bt_name, ?_⟩, ?_⟩))
    · unfold LcOne
      repeat array_get_dec
      intro _
      repeat array_get_dec
      refine ⟨x, rfl, h x hx, fz_cp ?_⟩
      repeat array_get_dec
      rfl
    · rw [filterAll, List.map_id]
      repeat array_get_dec
      exact q
theorem copy_all (T : Txt K mg) (n : Nat) : FnOk P w K mg base CX0 (n + 1) T.a__law_copy T.fd__law_copy ["_law_thing"] (spD K (S__law_copy n K)) := by
  induction n with
  | zero => exact ok__law_copy T 0 S_never (fun m h => nomatch h) never_ok
  | succ n ih => exact ok__law_copy T (n + 1) (S__law_copy n) (fun m h => by cases h; rfl) ih
end

section
variable {P : Program} {w : World} {K : PySem.W.Frag} {mg : Str → Option Value} {base : Heap}
theorem hk__law_is_integer (T : Txt K mg)  : L2H.FnH P w K mg base CX0 1 T.a__law_is_integer T.fd__law_is_integer ["_law_actual"] (spD K (S__law_is_integer K)) := by
  refine fnDH T.F__law_is_integer sc__law_is_integer ?len fun cdv A outer s H E p hot hr => ?body
  case len => intro dvs o R X h; first | (obtain ⟨rfl, _⟩ := h; rfl) | (obtain ⟨_, rfl, _⟩ := h; rfl) | (obtain ⟨_, _, rfl, _⟩ := h; rfl) | (obtain ⟨_, _, _, rfl, _⟩ := h; rfl) | (obtain ⟨_, _, _, _, rfl, _⟩ := h; rfl) | (obtain ⟨_, _, _, _, _, rfl, _⟩ := h; rfl) | (obtain ⟨_, _, _, _, _, _, rfl, _⟩ := h; rfl)
  have nd := sc__law_is_integer.nd
  have hu := DL.hu_ofH hr
  have hc := DL.hot_cx (CX := CX0) (P := P) (w := w) (K := K) (mg := mg) (base := base) (N := N__law_is_integer) (qual := "_law_is_integer") (scope := defScope s__law_is_integer) (f := T.a__law_is_integer) (cd := cdv) (A := A) (outer := outer) (s := s) (H := H) (E := E) hot
  refine ⟨_, (pss_one (ps_ret (pe_and (pe_callB (DL.call_isiK (K := K) rfl) (by rfl) T.n_isinstance (by decide +kernel) (pa_cons (pv 0) (pa_cons (pe_bltn (v := .ty "int") (by rfl) T.n_int (by decide +kernel) rfl) pa_nil))) (pe_one (pe_not (pe_callB (DL.call_isiK (K := K) rfl) (by rfl) T.n_isinstance (by decide +kernel) (pa_cons (pv 0) (pa_cons (pe_bltn (v := .ty "bool") (by rfl) T.n_bool (by decide +kernel) rfl) pa_nil)))))))), ?_⟩
  intro dvs o R X h
  have st : ∀ z, dvs = z → startD N__law_is_integer.length dvs = startD 1 z := fun z e => by rw [e]; rfl
  obtain ⟨n, rfl, q⟩ := h
  rw [st _ rfl]; clear st; simp only [startD, toSl, List.map_cons, List.map_nil, List.length_cons, List.length_nil, List.cons_append, List.nil_append, List.append_nil, Nat.reduceAdd, Nat.reduceSub, List.reduceReplicate, Nat.zero_add, List.replicate_zero, Nat.sub_self]
  repeat array_get_dec
  exact q
theorem hk__law_same_items (T : Txt K mg) (n : Nat) (H__law_same : ∀ m, n = m + 1 → L2H.FnH P w K mg base CX0 (2 * n) T.a__law_same T.fd__law_same ["_law_actual", "_law_expected"] (spD K (S__law_same m K))) :
    L2H.FnH P w K mg base CX0 (2 * n + 1) T.a__law_same_items T.fd__law_same_items ["_law_actual", "_law_expected"] (spD K (S__law_same_items n K)) := by
  cases n with
  | zero => exact ⟨fun vs H Q E ⟨G, o, dvs, R, X, wd, a, ⟨m, d, ds, _, z, _⟩, q⟩ => (nomatch z), fun A outer s H args us vs Q E p _ _ _ _ _ _ ⟨G, o, dvs, R, X, wd, a, ⟨m, d, ds, _, z, _⟩, q⟩ => nomatch z⟩
  | succ m =>
  have H__law_same := H__law_same m rfl
  refine fnDH T.F__law_same_items sc__law_same_items ?len fun cdv A outer s H E p hot hr => ?body
  case len => intro dvs o R X h; first | (obtain ⟨rfl, _⟩ := h; rfl) | (obtain ⟨_, rfl, _⟩ := h; rfl) | (obtain ⟨_, _, rfl, _⟩ := h; rfl) | (obtain ⟨_, _, _, rfl, _⟩ := h; rfl) | (obtain ⟨_, _, _, _, rfl, _⟩ := h; rfl) | (obtain ⟨_, _, _, _, _, rfl, _⟩ := h; rfl) | (obtain ⟨_, _, _, _, _, _, rfl, _⟩ := h; rfl)
  have nd := sc__law_same_items.nd
  have hu := DL.hu_ofH hr
  have hc := DL.hot_cx (CX := CX0) (P := P) (w := w) (K := K) (mg := mg) (base := base) (N := N__law_same_items) (qual := "_law_same_items") (scope := defScope s__law_same_items) (f := T.a__law_same_items) (cd := cdv) (A := A) (outer := outer) (s := s) (H := H) (E := E) hot
  refine ⟨_, (pss_cons (ps_if (pt_cmpR (DL.op_neK (K := K) rfl hr.units) (pe_callB (DL.call_lenK (K := K) rfl) (by rfl) T.n_len (by decide +kernel) (pa_cons (pv 0) pa_nil)) (pe_callB (DL.call_lenK (K := K) rfl) (by rfl) T.n_len (by decide +kernel) (pa_cons (pv 1) pa_nil)) (nomark _)) (pss_one (ps_ret pe_bl)) pss_nil) (pss_cons (L2H.ps_forH PassesOwn.never hc (L2H.pi_range1H (by rfl) T.n_range (pa_cons (pe_callB (DL.call_lenK (K := K) rfl) (by rfl) T.n_len (by decide +kernel) (pa_cons (pv 1) pa_nil)) pa_nil)) (pg_name (i := 2) nd rfl (Or.inl rfl)) (pss_one (ps_if (pt_not (pt_val (L2H.pe_callH (E := fun _ => E0) H__law_same (hr.mono (by first | decide | omega)) hc (by rfl) T.g__law_same T.F__law_same.kp T.b__law_same (fun _ => DL.passH) (pa_cons (pe_ix (DL.ix_K (K := K) rfl) (pv 0) (pv 2) (fun _ _ => rfl)) (pa_cons (pe_ix (DL.ix_K (K := K) rfl) (pv 1) (pv 2) (fun _ _ => rfl)) pa_nil))))) (pss_one (ps_ret pe_bl)) pss_nil))) (pss_one (ps_ret pe_bl)))), ?_⟩
  intro dvs o R X h
  have st : ∀ z, dvs = z → startD N__law_same_items.length dvs = startD 3 z := fun z e => by rw [e]; rfl
  obtain ⟨m', d, ds, rfl, hm, hd, hl, hs, q⟩ := h
  cases hm
  rw [st _ rfl]; clear st; simp only [startD, toSl, List.map_cons, List.map_nil, List.length_cons, List.length_nil, List.cons_append, List.nil_append, List.append_nil, Nat.reduceAdd, Nat.reduceSub, List.reduceReplicate, Nat.zero_add, List.replicate_zero, Nat.sub_self]
  repeat array_get_dec
  refine xc_lenQ hd ?_
  repeat array_get_dec
  refine xc_lenQ hd ?_
  repeat array_get_dec
  refine bs_nd (fun h => absurd rfl h) fun _ => ?_
  repeat array_get_dec
  refine xs_forR1 (xa_cons (xe_cb (xa_cons (xe_vd rfl (xa_nil ⟨trivial, xc_lenQ hd ?_⟩)))))
  repeat array_get_dec
  refine ⟨by omega, by omega, fun k ρ' o' => o' = o ∧ ∃ x, ρ' = [.val d, .val d, x], ⟨rfl, _, rfl⟩, ?_, ?_⟩
  · rintro k ρ' o' hk ⟨rfl, x, rfl⟩
    refine xg_nd ?_
    have hk : k < ds.length := by omega
    have at_k : atI ds (0 + (k : Int)) = some ds[k] := atD_of (j := k) (show (0 : Int) + (k : Int) = (k : Int) by omega) (List.getElem?_eq_getElem hk)
    repeat array_get_dec
    refine xr_ixQ hd at_k ?_
    repeat array_get_dec
    refine xr_ixQ hd at_k ?_
    repeat array_get_dec
    refine ⟨ds[k], rfl, hs _ (List.getElem_mem _), ?_⟩
    repeat array_get_dec
    exact ⟨_, rfl⟩
  · rintro ρ' o' ⟨rfl, x, rfl⟩
    repeat array_get_dec
    exact q
theorem hk__law_same (T : Txt K mg) (n : Nat) (H__law_is_integer : L2H.FnH P w K mg base CX0 1 T.a__law_is_integer T.fd__law_is_integer ["_law_actual"] (spD K (S__law_is_integer K)))
    (H__law_same_items : L2H.FnH P w K mg base CX0 (2 * n + 1) T.a__law_same_items T.fd__law_same_items ["_law_actual", "_law_expected"] (spD K (S__law_same_items n K))) :
    L2H.FnH P w K mg base CX0 (2 * n + 2) T.a__law_same T.fd__law_same ["_law_actual", "_law_expected"] (spD K (S__law_same n K)) := by
  have H__law_same : L2H.FnH P w K mg base CX0 (2 * n + 1) T.a__law_same T.fd__law_same ["_law_actual", "_law_expected"] (spD K (S_never K)) := never_okH
  refine fnDH T.F__law_same sc__law_same ?len fun cdv A outer s H E p hot hr => ?body
  case len => intro dvs o R X h; first | (obtain ⟨rfl, _⟩ := h; rfl) | (obtain ⟨_, rfl, _⟩ := h; rfl) | (obtain ⟨_, _, rfl, _⟩ := h; rfl) | (obtain ⟨_, _, _, rfl, _⟩ := h; rfl) | (obtain ⟨_, _, _, _, rfl, _⟩ := h; rfl) | (obtain ⟨_, _, _, _, _, rfl, _⟩ := h; rfl) | (obtain ⟨_, _, _, _, _, _, rfl, _⟩ := h; rfl)
  have nd := sc__law_same.nd
  have hu := DL.hu_ofH hr
  have hc := DL.hot_cx (CX := CX0) (P := P) (w := w) (K := K) (mg := mg) (base := base) (N := N__law_same) (qual := "_law_same") (scope := defScope s__law_same) (f := T.a__law_same) (cd := cdv) (A := A) (outer := outer) (s := s) (H := H) (E := E) hot
  refine ⟨_, (pss_cons (ps_if (pt_cmpR op_isN (pv 1) pe_non (nomark _)) (pss_one (ps_ret (pe_cmpR op_isN (pv 0) pe_non (nomark _)))) pss_nil) (pss_cons (ps_if (pt_val (pe_callB (DL.call_isiK (K := K) rfl) (by rfl) T.n_isinstance (by decide +kernel) (pa_cons (pv 1) (pa_cons (pe_bltn (v := .ty "bool") (by rfl) T.n_bool (by decide +kernel) rfl) pa_nil)))) (pss_one (ps_ret (pe_and (pe_callB (DL.call_isiK (K := K) rfl) (by rfl) T.n_isinstance (by decide +kernel) (pa_cons (pv 0) (pa_cons (pe_bltn (v := .ty "bool") (by rfl) T.n_bool (by decide +kernel) rfl) pa_nil))) (pe_one (pe_cmpR (DL.op_eqK (K := K) rfl hr.units) (pv 0) (pv 1) (nomark _)))))) pss_nil) (pss_cons (ps_if (pt_val (pe_callB (DL.call_isiK (K := K) rfl) (by rfl) T.n_isinstance (by decide +kernel) (pa_cons (pv 1) (pa_cons (pe_bltn (v := .ty "int") (by rfl) T.n_int (by decide +kernel) rfl) pa_nil)))) (pss_one (ps_ret (pe_and (L2H.pe_callH (E := fun _ => E0) H__law_is_integer (hr.mono (by first | decide | omega)) hc (by rfl) T.g__law_is_integer T.F__law_is_integer.kp T.b__law_is_integer (fun _ => DL.passH) (pa_cons (pv 0) pa_nil)) (pe_one (pe_cmpR (DL.op_eqK (K := K) rfl hr.units) (pv 0) (pv 1) (nomark _)))))) pss_nil) (pss_cons (ps_if (pt_val (pe_callB (DL.call_isiK (K := K) rfl) (by rfl) T.n_isinstance (by decide +kernel) (pa_cons (pv 1) (pa_cons (pe_bltn (v := .ty "str") (by rfl) T.n_str (by decide +kernel) rfl) pa_nil)))) (pss_one (ps_ret (pe_and (pe_callB (DL.call_isiK (K := K) rfl) (by rfl) T.n_isinstance (by decide +kernel) (pa_cons (pv 0) (pa_cons (pe_bltn (v := .ty "str") (by rfl) T.n_str (by decide +kernel) rfl) pa_nil))) (pe_one (pe_cmpR (DL.op_eqK (K := K) rfl hr.units) (pv 0) (pv 1) (nomark _)))))) pss_nil) (pss_cons (ps_if (pt_val (pe_callB (DL.call_isiK (K := K) rfl) (by rfl) T.n_isinstance (by decide +kernel) (pa_cons (pv 1) (pa_cons (pe_bltn (v := .ty "tuple") (by rfl) T.n_tuple (by decide +kernel) rfl) pa_nil)))) (pss_one (ps_ret (pe_and (pe_callB (DL.call_isiK (K := K) rfl) (by rfl) T.n_isinstance (by decide +kernel) (pa_cons (pv 0) (pa_cons (pe_bltn (v := .ty "tuple") (by rfl) T.n_tuple (by decide +kernel) rfl) pa_nil))) (pe_one (L2H.pe_callH (E := fun _ => E0) H__law_same_items (hr.mono (by first | decide | omega)) hc (by rfl) T.g__law_same_items T.F__law_same_items.kp T.b__law_same_items (fun _ => DL.passH) (pa_cons (pv 0) (pa_cons (pv 1) pa_nil))))))) pss_nil) (pss_cons (ps_if (pt_val (pe_callB (DL.call_isiK (K := K) rfl) (by rfl) T.n_isinstance (by decide +kernel) (pa_cons (pv 1) (pa_cons (pe_bltn (v := .ty "list") (by rfl) T.n_list (by decide +kernel) rfl) pa_nil)))) (pss_one (ps_ret (pe_and (pe_callB (DL.call_isiK (K := K) rfl) (by rfl) T.n_isinstance (by decide +kernel) (pa_cons (pv 0) (pa_cons (pe_bltn (v := .ty "list") (by rfl) T.n_list (by decide +kernel) rfl) pa_nil))) (pe_one (L2H.pe_callH (E := fun _ => E0) H__law_same_items (hr.mono (by first | decide | omega)) hc (by rfl) T.g__law_same_items T.F__law_same_items.kp T.b__law_same_items (fun _ => DL.passH) (pa_cons (pv 0) (pa_cons (pv 1) pa_nil))))))) pss_nil) (pss_cons (ps_if (PW.pt (pw_or (pt_not (pt_val (pe_callB (DL.call_isiK (K := K) rfl) (by rfl) T.n_isinstance (by decide +kernel) (pa_cons (pv 0) (pa_cons (pe_bltn (v := .ty "dict") (by rfl) T.n_dict (by decide +kernel) rfl) pa_nil))))) (pw_or1 (pt_cmpR (DL.op_neK (K := K) rfl hr.units) (pe_callB (DL.call_lenK (K := K) rfl) (by rfl) T.n_len (by decide +kernel) (pa_cons (pv 0) pa_nil)) (pe_callB (DL.call_lenK (K := K) rfl) (by rfl) T.n_len (by decide +kernel) (pa_cons (pv 1) pa_nil)) (nomark _))))) (pss_one (ps_ret pe_bl)) pss_nil) (pss_cons (L2H.ps_forH PassesOwn.never hc (DL.pi_listH (K := K) rfl (pv 1)) (pg_name (i := 2) nd rfl (Or.inl rfl)) (pss_one (ps_if (PW.pt (pw_or (pt_cmpR (DL.op_notInK (K := K) rfl) (pv 2) (pv 0) (by rfl)) (pw_or1 (pt_not (pt_val (L2H.pe_callH (E := fun _ => E0) H__law_same (hr.mono (by first | decide | omega)) hc (by rfl) T.g__law_same T.F__law_same.kp T.b__law_same (fun _ => DL.passH) (pa_cons (pe_ix (DL.ix_K (K := K) rfl) (pv 0) (pv 2) (fun _ _ => rfl)) (pa_cons (pe_ix (DL.ix_K (K := K) rfl) (pv 1) (pv 2) (fun _ _ => rfl)) pa_nil)))))))) (pss_one (ps_ret pe_bl)) pss_nil))) (pss_cons (L2H.ps_forH PassesOwn.never hc (DL.pi_listH (K := K) rfl (pv 0)) (pg_name (i := 2) nd rfl (Or.inl rfl)) (pss_one (ps_if (pt_val (pe_callB (DL.call_isiK (K := K) rfl) (by rfl) T.n_isinstance (by decide +kernel) (pa_cons (pv 2) (pa_cons (pe_bltn (v := .ty "bool") (by rfl) T.n_bool (by decide +kernel) rfl) pa_nil)))) (pss_one (ps_ret pe_bl)) pss_nil))) (pss_one (ps_ret pe_bl))))))))))), ?_⟩
  intro dvs o R X h
  have st : ∀ z, dvs = z → startD N__law_same.length dvs = startD 3 z := fun z e => by rw [e]; rfl
  obtain ⟨d, rfl, sm, q⟩ := h
  rw [st _ rfl]; clear st; simp only [startD, toSl, List.map_cons, List.map_nil, List.length_cons, List.length_nil, List.cons_append, List.nil_append, List.append_nil, Nat.reduceAdd, Nat.reduceSub, List.reduceReplicate, Nat.zero_add, List.replicate_zero, Nat.sub_self]
  cases sm with
  | non =>
    repeat array_get_dec
    exact q
  | bl =>
    repeat array_get_dec
    simpa using q
  | int =>
    repeat array_get_dec
    refine ⟨_, rfl, ?_⟩
    repeat array_get_dec
    simpa using q
  | str =>
    repeat array_get_dec
    simpa using q
  | @tup m ds l h =>
    repeat array_get_dec
    exact ⟨m, .tuple ds, ds, rfl, rfl, .inl rfl, l, h, q⟩
  | @lst m ds l h =>
    repeat array_get_dec
    exact ⟨m, .list ds, ds, rfl, rfl, .inr rfl, l, h, q⟩
theorem same_allH (T : Txt K mg) (n : Nat) : L2H.FnH P w K mg base CX0 (2 * n + 2) T.a__law_same T.fd__law_same ["_law_actual", "_law_expected"] (spD K (S__law_same n K)) := by
  have Gi : L2H.FnH P w K mg base CX0 1 T.a__law_is_integer T.fd__law_is_integer ["_law_actual"] (spD K (S__law_is_integer K)) := hk__law_is_integer T
  induction n with
  | zero => exact hk__law_same T 0 Gi (hk__law_same_items T 0 fun m h => nomatch h)
  | succ n ih => exact hk__law_same T (n + 1) Gi (hk__law_same_items T (n + 1) fun m h => by
      cases h
      exact ih)

theorem ok_apply_edit (T : Txt K mg) (G_has_right_characters : FnOk P w K mg base CX0 1 T.a_has_right_characters T.fd_has_right_characters ["value"] (spD K (S_has_right_characters K))) : FnOk P w K mg base (L2N.CX P w) 2 T.a_apply_edit T.fd_apply_edit ["text", "edit"] (spD K (S_apply_edit K)) := by
  refine fnDXN T.F_apply_edit sc_apply_edit ?len fun cdv A outer s H E hr => ?body
  case len => intro dvs o R X h; first | (obtain ⟨rfl, _⟩ := h; rfl) | (obtain ⟨_, rfl, _⟩ := h; rfl) | (obtain ⟨_, _, rfl, _⟩ := h; rfl) | (obtain ⟨_, _, _, rfl, _⟩ := h; rfl) | (obtain ⟨_, _, _, _, rfl, _⟩ := h; rfl) | (obtain ⟨_, _, _, _, _, rfl, _⟩ := h; rfl) | (obtain ⟨_, _, _, _, _, _, rfl, _⟩ := h; rfl)
  have nd := sc_apply_edit.nd
  have hu := hu_of hr
  refine ⟨_, (pss_cons (ps_asg (pv 1) (DL.pg_tupK (K := K) (n := 3) rfl (pg_tup (by rfl) (pgs_cons (pg_name (i := 2) nd rfl (Or.inl rfl)) (pgs_cons (pg_name (i := 3) nd rfl (Or.inl rfl)) (pgs_cons (pg_name (i := 4) nd rfl (Or.inl rfl)) pgs_nil)))))) (pss_cons (ps_if (PW.pt (pw_or (pt_not (DL.pt_chain3 (DL.op_leU) (DL.op_leU) (DL.op_leU) pe_int (pv 2) (pv 3) (pe_callB (DL.call_lenK (K := K) rfl) (by rfl) T.n_len (by decide +kernel) (pa_cons (pv 0) pa_nil)))) (pw_or1 (pt_not (pt_val (pe_call G_has_right_characters (hr.mono (by first | decide | omega)) (by rfl) T.g_has_right_characters T.F_has_right_characters.kp T.b_has_right_characters .nil pass0 (pa_cons (pv 4) pa_nil))))))) (pss_one (DL.ps_raiseCN rfl (L2N.takes_of rfl rfl rfl rfl) (L2N.pmk_own PySem.F.excBase_ValueError T.x_InvalidEdit T.g_InvalidEdit T.k_InvalidEdit (raises_own T.b_InvalidEdit T.t_InvalidEdit) (by rfl)))) pss_nil) (pss_cons (ps_set (i := 5) nd rfl (Or.inl rfl) (pe_op (DL.op_addK (K := K) rfl) (pe_op (DL.op_addK (K := K) rfl) (pe_slice (DL.sl_K (K := K) rfl) (pv 0) po_none (po_some (pv 2))) (pv 4)) (pe_slice (DL.sl_K (K := K) rfl) (pv 0) (po_some (pv 3)) po_none))) (pss_cons (ps_if (pt_cmpR (op_gt) (pe_callB (DL.call_lenK (K := K) rfl) (by rfl) T.n_len (by decide +kernel) (pa_cons (pv 5) pa_nil)) (pe_glob (v := .int 4000) (by rfl) (T.c_MOST).choose_spec ⟨_, rfl⟩) (nomark _)) (pss_one (DL.ps_raiseCN rfl (L2N.takes_of rfl rfl rfl rfl) (L2N.pmk_own PySem.F.excBase_ValueError T.x_InvalidEdit T.g_InvalidEdit T.k_InvalidEdit (raises_own T.b_InvalidEdit T.t_InvalidEdit) (by rfl)))) pss_nil) (pss_one (ps_ret (pv 5))))))), ?_⟩
  intro dvs o R X h
  have st : ∀ z, dvs = z → startD N_apply_edit.length dvs = startD 6 z := fun z e => by rw [e]; rfl
  obtain ⟨t, s, e, n, rfl, h3, h4, q, qx⟩ := h
  rw [st _ rfl]; clear st; simp only [startD, toSl, List.map_cons, List.map_nil, List.length_cons, List.length_nil, List.cons_append, List.nil_append, List.append_nil, Nat.reduceAdd, Nat.reduceSub, List.reduceReplicate, Nat.zero_add, List.replicate_zero, Nat.sub_self]
  have hs : sizeLine = 16777216 := sizeLine_eq
  have no : ¬ Fits t s e n → X (.ref T.e_InvalidEdit, none) o := fun h => qx h _ ⟨T.i_InvalidEdit, rfl⟩
  repeat array_get_dec
  refine bs_d3 kept_d (fun a1 => ?_) fun a1 => ?_
  rotate_left
  · repeat array_get_dec
    exact xs_raiseC (no fun z => a1 z.1)
  repeat array_get_dec
  refine bs_d3 kept_d (fun a2 => ?_) fun a2 => ?_
  rotate_left
  · repeat array_get_dec
    exact xs_raiseC (no fun z => a2 z.2.1)
  repeat array_get_dec
  refine xc_lenS (by omega) ?_
  repeat array_get_dec
  refine bs_nd (fun a3 => ?_) fun a3 => ?_
  · repeat array_get_dec
    exact xs_raiseC (no fun z => a3 z.2.2.1)
  repeat array_get_dec
  refine ⟨n, rfl, ?_⟩
  repeat array_get_dec
  refine bs_nb (fun a4 => ?_) fun a4 => ?_
  · repeat array_get_dec
    exact xs_raiseC (no fun z => by rw [z.2.2.2.1] at a4; cases a4)
  obtain ⟨s, rfl⟩ : ∃ j : Nat, s = j := ⟨s.toNat, by omega⟩
  obtain ⟨e, rfl⟩ : ∃ j : Nat, e = j := ⟨e.toNat, by omega⟩
  rw [Int.toNat_natCast, Int.toNat_natCast] at q
  repeat array_get_dec
  refine xsl_S (by omega) ?_
  have c1 := tl_cutTo t s
  have c2 := tl_cutFrom t e
  have d1 := cut_len t none (some (s : Int))
  have d2 := cut_len t (some (e : Int)) none
  generalize cutS t none (some (s : Int)) = x1 at c1 d1
  generalize hx2 : cutS t (some (e : Int)) none = x2 at c2 d2
  have l1 : x1.length = s := by rw [len_tl, c1, List.length_take, ← len_tl]; omega
  have l2 : x2.length = t.length - e := by rw [len_tl, c2, List.length_drop, ← len_tl]
  have lc : (x1 ++ n).length = s + n.length := by rw [len_tl, app_tl, List.length_append, ← len_tl, ← len_tl, l1]
  repeat array_get_dec
  refine xr_addS (by omega) ?_
  repeat array_get_dec
  refine xsl_S (by omega) ?_
  repeat array_get_dec
  rw [hx2]
  have lr : (x1 ++ n ++ x2).length = s + n.length + (t.length - e) := by rw [len_tl, app_tl, List.length_append, ← len_tl, ← len_tl, lc, l2]
  have q := fun h => q h (x1 ++ n ++ x2) (by rw [app_tl, app_tl, c1, c2])
  refine xr_addS (by omega) ?_
  generalize x1 ++ n ++ x2 = r at lr q ⊢
  repeat array_get_dec
  refine xc_lenS (by omega) ?_
  repeat array_get_dec
  refine bs_d (fun a5 => ?_) fun a5 => ?_
  · repeat array_get_dec
    exact xs_raiseC (no fun z => by have := z.2.2.2.2; omega)
  · repeat array_get_dec
    exact q ⟨a1, a2, a3, a4, by omega⟩
theorem ok__law_in_order (T : Txt K mg)  : FnOk P w K mg base CX0 1 T.a__law_in_order T.fd__law_in_order ["_law_text", "_law_edits"] (spD K (S__law_in_order K)) := by
  refine fnD T.F__law_in_order sc__law_in_order ?len fun cdv A outer s H E hr => ?body
  case len => intro dvs o R X h; first | (obtain ⟨rfl, _⟩ := h; rfl) | (obtain ⟨_, rfl, _⟩ := h; rfl) | (obtain ⟨_, _, rfl, _⟩ := h; rfl) | (obtain ⟨_, _, _, rfl, _⟩ := h; rfl) | (obtain ⟨_, _, _, _, rfl, _⟩ := h; rfl) | (obtain ⟨_, _, _, _, _, rfl, _⟩ := h; rfl) | (obtain ⟨_, _, _, _, _, _, rfl, _⟩ := h; rfl)
  have nd := sc__law_in_order.nd
  have hu := hu_of hr
  refine ⟨_, (pss_cons (ps_set (i := 2) nd rfl (Or.inl rfl) pe_int) (pss_cons (ps_for PassesOwn.never rfl (DL.pi_listK (K := K) rfl (pi_list (pv 1))) (DL.pg_tupK (K := K) (n := 3) rfl (pg_tup (by rfl) (pgs_cons (pg_name (i := 3) nd rfl (Or.inl rfl)) (pgs_cons (pg_name (i := 4) nd rfl (Or.inl rfl)) (pgs_cons (pg_name (i := 5) nd rfl (Or.inl rfl)) pgs_nil))))) (pss_cons (ps_if (PW.pt (pw_or (pt_cmpR (DL.op_ltU) (pv 3) (pv 2) (nomark _)) (pw_or (pt_cmpR (DL.op_ltU) (pv 4) (pv 3) (nomark _)) (pw_or1 (pt_cmpR (op_gt) (pv 4) (pe_callB (DL.call_lenK (K := K) rfl) (by rfl) T.n_len (by decide +kernel) (pa_cons (pv 0) pa_nil)) (nomark _)))))) (pss_one (ps_ret pe_bl)) pss_nil) (pss_one (ps_set (i := 2) nd rfl (Or.inl rfl) (pv 4))))) (pss_one (ps_ret pe_bl)))), ?_⟩
  intro dvs o R X h
  have st : ∀ z, dvs = z → startD N__law_in_order.length dvs = startD 6 z := fun z e => by rw [e]; rfl
  obtain ⟨t, es, rfl, hl, q⟩ := h
  rw [st _ rfl]; clear st; simp only [startD, toSl, List.map_cons, List.map_nil, List.length_cons, List.length_nil, List.cons_append, List.nil_append, List.append_nil, Nat.reduceAdd, Nat.reduceSub, List.reduceReplicate, Nat.zero_add, List.replicate_zero, Nat.sub_self]
  have hs : sizeLine = 16777216 := sizeLine_eq
  repeat array_get_dec
  refine xs_forL (xf_vd rfl ⟨_, rfl, fun k ρ' o' => Hold (o = o' ∧ ∃ (a : Nat) (x3 x4 x5 : Sl), ρ' = [.val (.str t), .val (.list (es.map edD)), .val (.int a), x3, x4, x5] ∧ inO t.length a (es.drop k) = inO t.length 0 es), hold ⟨rfl, 0, _, _, _, rfl, rfl⟩, ?_, ?_⟩)
  · rintro k d _ _ hk ⟨rfl, a, x3, x4, x5, rfl, hi⟩
    obtain ⟨e, he, rfl⟩ : ∃ e, es[k]? = some e ∧ d = edD e := by
      rw [List.getElem?_map] at hk
      cases he : es[k]? with
      | none => rw [he] at hk; cases hk
      | some e => rw [he] at hk; exact ⟨e, rfl, (Option.some.inj hk).symm⟩
    rw [drop_at he] at hi
    obtain ⟨s, e, n⟩ := e
    have hi : (decide (a ≤ s) && (decide (s ≤ e) && (decide (e ≤ t.length) && inO t.length e (es.drop (k + 1))))) = inO t.length 0 es := hi
    dsimp only [edD]
    repeat array_get_dec
    refine bs_d (fun h1 => ?_) fun h1 => ?_
    · rw [decide_eq_false (show ¬ a ≤ s by omega), Bool.false_and] at hi
      rw [← hi] at q
      repeat array_get_dec
      exact q
    rw [decide_eq_true (show a ≤ s by omega), Bool.true_and] at hi
    repeat array_get_dec
    refine bs_d (fun h2 => ?_) fun h2 => ?_
    · rw [decide_eq_false (show ¬ s ≤ e by omega), Bool.false_and] at hi
      rw [← hi] at q
      repeat array_get_dec
      exact q
    rw [decide_eq_true (show s ≤ e by omega), Bool.true_and] at hi
    repeat array_get_dec
    refine xc_lenS (by omega) ?_
    repeat array_get_dec
    refine bs_d (fun h3 => ?_) fun h3 => ?_
    · rw [decide_eq_false (show ¬ e ≤ t.length by omega), Bool.false_and] at hi
      rw [← hi] at q
      repeat array_get_dec
      exact q
    rw [decide_eq_true (show e ≤ t.length by omega), Bool.true_and] at hi
    repeat array_get_dec
    exact hold ⟨rfl, e, _, _, _, rfl, hi⟩
  · rintro _ _ ⟨rfl, a, x3, x4, x5, rfl, hi⟩
    rw [List.length_map, List.drop_length] at hi
    rw [← hi] at q
    repeat array_get_dec
    exact q
theorem hk__law_in_order (T : Txt K mg)  : L2H.FnH P w K mg base CX0 1 T.a__law_in_order T.fd__law_in_order ["_law_text", "_law_edits"] (spD K (S__law_in_order K)) := by
  refine fnDH T.F__law_in_order sc__law_in_order ?len fun cdv A outer s H E p hot hr => ?body
  case len => intro dvs o R X h; first | (obtain ⟨rfl, _⟩ := h; rfl) | (obtain ⟨_, rfl, _⟩ := h; rfl) | (obtain ⟨_, _, rfl, _⟩ := h; rfl) | (obtain ⟨_, _, _, rfl, _⟩ := h; rfl) | (obtain ⟨_, _, _, _, rfl, _⟩ := h; rfl) | (obtain ⟨_, _, _, _, _, rfl, _⟩ := h; rfl) | (obtain ⟨_, _, _, _, _, _, rfl, _⟩ := h; rfl)
  have nd := sc__law_in_order.nd
  have hu := DL.hu_ofH hr
  have hc := DL.hot_cx (CX := CX0) (P := P) (w := w) (K := K) (mg := mg) (base := base) (N := N__law_in_order) (qual := "_law_in_order") (scope := defScope s__law_in_order) (f := T.a__law_in_order) (cd := cdv) (A := A) (outer := outer) (s := s) (H := H) (E := E) hot
  refine ⟨_, (pss_cons (ps_set (i := 2) nd rfl (Or.inl rfl) pe_int) (pss_cons (L2H.ps_forH PassesOwn.never hc (DL.pi_listH (K := K) rfl (pv 1)) (DL.pg_tupH (K := K) (n := 3) rfl hc (pgs_cons (pg_name (i := 3) nd rfl (Or.inl rfl)) (pgs_cons (pg_name (i := 4) nd rfl (Or.inl rfl)) (pgs_cons (pg_name (i := 5) nd rfl (Or.inl rfl)) pgs_nil)))) (pss_cons (ps_if (PW.pt (pw_or (pt_cmpR (DL.op_ltU) (pv 3) (pv 2) (nomark _)) (pw_or (pt_cmpR (DL.op_ltU) (pv 4) (pv 3) (nomark _)) (pw_or1 (pt_cmpR (op_gt) (pv 4) (pe_callB (DL.call_lenK (K := K) rfl) (by rfl) T.n_len (by decide +kernel) (pa_cons (pv 0) pa_nil)) (nomark _)))))) (pss_one (ps_ret pe_bl)) pss_nil) (pss_one (ps_set (i := 2) nd rfl (Or.inl rfl) (pv 4))))) (pss_one (ps_ret pe_bl)))), ?_⟩
  intro dvs o R X h
  have st : ∀ z, dvs = z → startD N__law_in_order.length dvs = startD 6 z := fun z e => by rw [e]; rfl
  obtain ⟨t, es, rfl, hl, q⟩ := h
  rw [st _ rfl]; clear st; simp only [startD, toSl, List.map_cons, List.map_nil, List.length_cons, List.length_nil, List.cons_append, List.nil_append, List.append_nil, Nat.reduceAdd, Nat.reduceSub, List.reduceReplicate, Nat.zero_add, List.replicate_zero, Nat.sub_self]
  have hs : sizeLine = 16777216 := sizeLine_eq
  repeat array_get_dec
  refine xs_forL (xf_vd rfl ⟨_, rfl, fun k ρ' o' => Hold (o = o' ∧ ∃ (a : Nat) (x3 x4 x5 : Sl), ρ' = [.val (.str t), .val (.list (es.map edD)), .val (.int a), x3, x4, x5] ∧ inO t.length a (es.drop k) = inO t.length 0 es), hold ⟨rfl, 0, _, _, _, rfl, rfl⟩, ?_, ?_⟩)
  · rintro k d _ _ hk ⟨rfl, a, x3, x4, x5, rfl, hi⟩
    obtain ⟨e, he, rfl⟩ : ∃ e, es[k]? = some e ∧ d = edD e := by
      rw [List.getElem?_map] at hk
      cases he : es[k]? with
      | none => rw [he] at hk; cases hk
      | some e => rw [he] at hk; exact ⟨e, rfl, (Option.some.inj hk).symm⟩
    rw [drop_at he] at hi
    obtain ⟨s, e, n⟩ := e
    have hi : (decide (a ≤ s) && (decide (s ≤ e) && (decide (e ≤ t.length) && inO t.length e (es.drop (k + 1))))) = inO t.length 0 es := hi
    dsimp only [edD]
    repeat array_get_dec
    refine bs_d (fun h1 => ?_) fun h1 => ?_
    · rw [decide_eq_false (show ¬ a ≤ s by omega), Bool.false_and] at hi
      rw [← hi] at q
      repeat array_get_dec
      exact q
    rw [decide_eq_true (show a ≤ s by omega), Bool.true_and] at hi
    repeat array_get_dec
    refine bs_d (fun h2 => ?_) fun h2 => ?_
    · rw [decide_eq_false (show ¬ s ≤ e by omega), Bool.false_and] at hi
      rw [← hi] at q
      repeat array_get_dec
      exact q
    rw [decide_eq_true (show s ≤ e by omega), Bool.true_and] at hi
    repeat array_get_dec
    refine xc_lenS (by omega) ?_
    repeat array_get_dec
    refine bs_d (fun h3 => ?_) fun h3 => ?_
    · rw [decide_eq_false (show ¬ e ≤ t.length by omega), Bool.false_and] at hi
      rw [← hi] at q
      repeat array_get_dec
      exact q
    rw [decide_eq_true (show e ≤ t.length by omega), Bool.true_and] at hi
    repeat array_get_dec
    exact hold ⟨rfl, e, _, _, _, rfl, hi⟩
  · rintro _ _ ⟨rfl, a, x3, x4, x5, rfl, hi⟩
    rw [List.length_map, List.drop_length] at hi
    rw [← hi] at q
    repeat array_get_dec
    exact q
theorem ok_apply_joint (T : Txt K mg) (G_has_right_characters : FnOk P w K mg base CX0 1 T.a_has_right_characters T.fd_has_right_characters ["value"] (spD K (S_has_right_characters K))) : FnOk P w K mg base (L2N.CX P w) 2 T.a_apply_joint T.fd_apply_joint ["text", "edits"] (spD K (S_apply_joint K)) := by
  refine fnDXN T.F_apply_joint sc_apply_joint ?len fun cdv A outer s H E hr => ?body
  case len => intro dvs o R X h; first | (obtain ⟨rfl, _⟩ := h; rfl) | (obtain ⟨_, rfl, _⟩ := h; rfl) | (obtain ⟨_, _, rfl, _⟩ := h; rfl) | (obtain ⟨_, _, _, rfl, _⟩ := h; rfl) | (obtain ⟨_, _, _, _, rfl, _⟩ := h; rfl) | (obtain ⟨_, _, _, _, _, rfl, _⟩ := h; rfl) | (obtain ⟨_, _, _, _, _, _, rfl, _⟩ := h; rfl)
  have nd := sc_apply_joint.nd
  have hu := hu_of hr
  refine ⟨_, (pss_cons (ps_set (i := 2) nd rfl (Or.inl rfl) pe_int) (pss_cons (ps_set (i := 3) nd rfl (Or.inl rfl) (pe_lst pa_nil)) (pss_cons (ps_for (passes_of rfl) rfl (DL.pi_listK (K := K) rfl (pi_list (pv 1))) (DL.pg_tupK (K := K) (n := 3) rfl (pg_tup (by rfl) (pgs_cons (pg_name (i := 4) nd rfl (Or.inl rfl)) (pgs_cons (pg_name (i := 5) nd rfl (Or.inl rfl)) (pgs_cons (pg_name (i := 6) nd rfl (Or.inl rfl)) pgs_nil))))) (pss_cons (ps_if (PW.pt (pw_or (pt_not (DL.pt_chain3 (DL.op_leU) (DL.op_leU) (DL.op_leU) (pv 2) (pv 4) (pv 5) (pe_callB (DL.call_lenK (K := K) rfl) (by rfl) T.n_len (by decide +kernel) (pa_cons (pv 0) pa_nil)))) (pw_or1 (pt_not (pt_val (pe_call G_has_right_characters (hr.mono (by first | decide | omega)) (by rfl) T.g_has_right_characters T.F_has_right_characters.kp T.b_has_right_characters .nil pass0 (pa_cons (pv 6) pa_nil))))))) (pss_one (DL.ps_raiseCN rfl (L2N.takes_of rfl rfl rfl rfl) (L2N.pmk_own PySem.F.excBase_ValueError T.x_InvalidEdit T.g_InvalidEdit T.k_InvalidEdit (raises_own T.b_InvalidEdit T.t_InvalidEdit) (by rfl)))) pss_nil) (pss_cons (ps_expr (DL.pe_bmK (K := K) rfl (pe_bm PySem.F.plainAttrs_list PySem.F.slot_list_append PySem.F.type_list_append mt_append (pv 3) (pa_cons (pe_slice (DL.sl_K (K := K) rfl) (pv 0) (po_some (pv 2)) (po_some (pv 4))) pa_nil)))) (pss_cons (ps_expr (DL.pe_bmK (K := K) rfl (pe_bm PySem.F.plainAttrs_list PySem.F.slot_list_append PySem.F.type_list_append mt_append (pv 3) (pa_cons (pv 6) pa_nil)))) (pss_one (ps_set (i := 2) nd rfl (Or.inl rfl) (pv 5))))))) (pss_cons (ps_expr (DL.pe_bmK (K := K) rfl (pe_bm PySem.F.plainAttrs_list PySem.F.slot_list_append PySem.F.type_list_append mt_append (pv 3) (pa_cons (pe_slice (DL.sl_K (K := K) rfl) (pv 0) (po_some (pv 2)) po_none) pa_nil)))) (pss_cons (ps_set (i := 7) nd rfl (Or.inl rfl) (DL.pe_bmK (K := K) rfl (pe_bm PySem.F.plainAttrs_str PySem.F.slot_str_join PySem.F.type_str_join (DL.mt_joinK (K := K) rfl) pe_str (pa_cons (pv 3) pa_nil)))) (pss_cons (ps_if (pt_cmpR (op_gt) (pe_callB (DL.call_lenK (K := K) rfl) (by rfl) T.n_len (by decide +kernel) (pa_cons (pv 7) pa_nil)) (pe_glob (v := .int 4000) (by rfl) (T.c_MOST).choose_spec ⟨_, rfl⟩) (nomark _)) (pss_one (DL.ps_raiseCN rfl (L2N.takes_of rfl rfl rfl rfl) (L2N.pmk_own PySem.F.excBase_ValueError T.x_InvalidEdit T.g_InvalidEdit T.k_InvalidEdit (raises_own T.b_InvalidEdit T.t_InvalidEdit) (by rfl)))) pss_nil) (pss_one (ps_ret (pv 7))))))))), ?_⟩
  intro dvs o R X h
  have st : ∀ z, dvs = z → startD N_apply_joint.length dvs = startD 8 z := fun z e => by rw [e]; rfl
  obtain ⟨t, es, rfl, hl, hes, g, q, qx⟩ := h
  rw [st _ rfl]; clear st; simp only [startD, toSl, List.map_cons, List.map_nil, List.length_cons, List.length_nil, List.cons_append, List.nil_append, List.append_nil, Nat.reduceAdd, Nat.reduceSub, List.reduceReplicate, Nat.zero_add, List.replicate_zero, Nat.sub_self]
  have hs : sizeLine = 16777216 := sizeLine_eq
  have no : inO t.length 0 es = false → X (.ref T.e_InvalidEdit, none) o := fun h => qx h _ ⟨T.i_InvalidEdit, rfl⟩
  have htl := len_tl t
  repeat array_get_dec
  refine xs_forL (xf_vd rfl ⟨_, rfl, fun k ρ' o' => Hold (o = o' ∧ ∃ (a : Nat) (ps : List Str) (x4 x5 x6 : Sl), ρ' = [.val (.str t), .val (.list (es.map edD)), .val (.int a), .own (.lst (ps.map .str)), x4, x5, x6, .no] ∧ ps.length = 2 * k ∧ (∀ p ∈ ps, p.length ≤ 1000) ∧ inO t.length a (es.drop k) = inO t.length 0 es ∧ a ≤ t.length ∧ (ps.map TL.tl).flatten ++ jt (TL.tl t) a (es.drop k) = jt (TL.tl t) 0 es), hold ⟨rfl, 0, [], _, _, _, rfl, rfl, (fun _ h => (nomatch h)), rfl, Nat.zero_le _, rfl⟩, ?_, ?_⟩)
  · rintro k d _ _ hk ⟨rfl, a, ps, x4, x5, x6, rfl, hp, hps, hi, ha, hj⟩
    obtain ⟨e, he, rfl⟩ : ∃ e, es[k]? = some e ∧ d = edD e := by
      rw [List.getElem?_map] at hk
      cases he : es[k]? with
      | none => rw [he] at hk; cases hk
      | some e => rw [he] at hk; exact ⟨e, rfl, (Option.some.inj hk).symm⟩
    have hk10 : k < es.length := (List.getElem?_eq_some_iff.mp he).1
    have ⟨g1, g2⟩ := g e (List.mem_of_getElem? he)
    rw [drop_at he] at hi hj
    obtain ⟨s, e, n⟩ := e
    have hi : (decide (a ≤ s) && (decide (s ≤ e) && (decide (e ≤ t.length) && inO t.length e (es.drop (k + 1))))) = inO t.length 0 es := hi
    have hj : (ps.map TL.tl).flatten ++ (((TL.tl t).drop a).take (s - a) ++ (TL.tl n ++ jt (TL.tl t) e (es.drop (k + 1)))) = jt (TL.tl t) 0 es := hj
    have g1 : (TL.tl n).all okB = true := g1
    have g2 : n.length ≤ 100 := g2
    dsimp only [edD]
    repeat array_get_dec
    refine bs_d3 kept_d (fun a1 => ?_) fun a1 => ?_
    rotate_left
    · rw [decide_eq_false (show ¬ a ≤ s by omega), Bool.false_and] at hi
      repeat array_get_dec
      exact xs_raiseC (no hi.symm)
    rw [decide_eq_true (show a ≤ s by omega), Bool.true_and] at hi
    repeat array_get_dec
    refine bs_d3 kept_d (fun a2 => ?_) fun a2 => ?_
    rotate_left
    · rw [decide_eq_false (show ¬ s ≤ e by omega), Bool.false_and] at hi
      repeat array_get_dec
      exact xs_raiseC (no hi.symm)
    rw [decide_eq_true (show s ≤ e by omega), Bool.true_and] at hi
    repeat array_get_dec
    refine xc_lenS (by omega) ?_
    repeat array_get_dec
    refine bs_nd (fun a3 => ?_) fun a3 => ?_
    · rw [decide_eq_false (show ¬ e ≤ t.length by omega), Bool.false_and] at hi
      repeat array_get_dec
      exact xs_raiseC (no hi.symm)
    rw [decide_eq_true (show e ≤ t.length by omega), Bool.true_and] at hi
    repeat array_get_dec
    refine ⟨n, rfl, ?_⟩
    rw [g1]
    repeat array_get_dec
    refine xsl_S (by omega) ?_
    have c1 := tl_cutN t a s
    generalize cutS t (some (a : Int)) (some (s : Int)) = x at c1
    have lx : x.length ≤ 1000 := by rw [len_tl, c1, List.length_drop, List.length_take]; omega
    have room : (ps.map PyData.str).length < sizeLine := by rw [List.length_map, hp, hs]; omega
    repeat array_get_dec
    refine xm_append room rfl ?_
    have room2 : (ps.map PyData.str ++ [PyData.str x]).length < sizeLine := by rw [List.length_append, List.length_map, hp, hs]; show 2 * k + 1 < _; omega
    repeat array_get_dec
    refine xm_append room2 rfl ?_
    repeat array_get_dec
    refine hold ⟨rfl, e, ps ++ [x, n], .val (.int s), .val (.int e), .val (.str n), by simp, by rw [List.length_append, hp]; show 2 * k + 2 = _; omega, fun p h => ?_, hi, by omega, ?_⟩
    · rcases List.mem_append.mp h with h | h
      · exact hps p h
      · have : p = x ∨ p = n := by simpa using h
        rcases this with rfl | rfl
        · exact lx
        · omega
    · rw [← hj, List.map_append, List.flatten_append, List.append_assoc]
      show _ ++ ([TL.tl x, TL.tl n].flatten ++ _) = _
      rw [c1, List.drop_take]
      simp
  · rintro _ _ ⟨rfl, a, ps, x4, x5, x6, rfl, hp, hps, hi, ha, hj⟩
    rw [List.length_map] at hp hi hj
    rw [List.drop_length] at hi hj
    have hi : inO t.length 0 es = true := hi.symm
    have hj : (ps.map TL.tl).flatten ++ (TL.tl t).drop a = jt (TL.tl t) 0 es := hj
    have jl := jt_len (T := TL.tl t) (es := es) (a := 0) (by rw [← htl]; exact hi) (Nat.zero_le _) g
    rw [← hj, ← htl] at jl
    have q := q hi
    repeat array_get_dec
    refine xsl_S (by omega) ?_
    have c1 := tl_cutFrom t a
    generalize cutS t (some (a : Int)) none = x at c1
    have lx : x.length ≤ 1000 := by rw [len_tl, c1, List.length_drop]; omega
    have room : (ps.map PyData.str).length < sizeLine := by rw [List.length_map, hp, hs]; omega
    repeat array_get_dec
    refine xm_append room rfl ?_
    have e1 : ps.map PyData.str ++ [PyData.str x] = (ps ++ [x]).map PyData.str := by simp
    rw [e1]
    repeat array_get_dec
    have hj2 : ((ps ++ [x]).map TL.tl).flatten = jt (TL.tl t) 0 es := by
      rw [List.map_append, List.flatten_append, ← hj, ← c1]; simp
    have ls : ∀ p ∈ ps ++ [x], p.length ≤ 1000 := fun p h => by
      rcases List.mem_append.mp h with h | h
      · exact hps p h
      · rw [List.mem_singleton.mp h]; exact lx
    have room3 : ((ps ++ [x]).map (·.length)).sum + (ps ++ [x]).length * ("" : Str).length ≤ 16777216 := sum_room ls (by rw [List.length_append, hp]; show 2 * es.length + 1 ≤ 21; omega)
    refine xm_join rfl room3 ?_
    generalize hr : Txt.join "" (ps ++ [x]) = r
    have hr2 : TL.tl r = jt (TL.tl t) 0 es := by rw [← hr, joinE_tl, hj2]
    have lr : r.length ≤ 4000 := by
      rw [len_tl, hr2, ← hj]
      omega
    repeat array_get_dec
    refine xc_lenS (by omega) ?_
    repeat array_get_dec
    refine bs_kf (by omega) ?_
    repeat array_get_dec
    exact q _ hr2
theorem ok_has_right_characters (T : Txt K mg)  : FnOk P w K mg base CX0 1 T.a_has_right_characters T.fd_has_right_characters ["value"] (spD K (S_has_right_characters K)) := by
  refine fnD T.F_has_right_characters sc_has_right_characters ?len fun cdv A outer s H E hr => ?body
  case len => intro dvs o R X h; first | (obtain ⟨rfl, _⟩ := h; rfl) | (obtain ⟨_, rfl, _⟩ := h; rfl) | (obtain ⟨_, _, rfl, _⟩ := h; rfl) | (obtain ⟨_, _, _, rfl, _⟩ := h; rfl) | (obtain ⟨_, _, _, _, rfl, _⟩ := h; rfl) | (obtain ⟨_, _, _, _, _, rfl, _⟩ := h; rfl) | (obtain ⟨_, _, _, _, _, _, rfl, _⟩ := h; rfl)
  have nd := sc_has_right_characters.nd
  have hu := hu_of hr
  refine ⟨_, (pss_cons (ps_for PassesOwn.never rfl (pi_str (pv 0)) (pg_name (i := 1) nd rfl (Or.inl rfl)) (pss_one (ps_if (pt_cmpR (DL.op_notInK (K := K) rfl) (pv 1) (pe_glob (v := .str k_CHARACTERS) (by rfl) (T.c_CHARACTERS).choose_spec ⟨_, rfl⟩) (by rfl)) (pss_one (ps_ret pe_bl)) pss_nil))) (pss_one (ps_ret pe_bl))), ?_⟩
  intro dvs o R X h
  have st : ∀ z, dvs = z → startD N_has_right_characters.length dvs = startD 2 z := fun z e => by rw [e]; rfl
  obtain ⟨t, rfl, q⟩ := h
  rw [st _ rfl]; clear st; simp only [startD, toSl, List.map_cons, List.map_nil, List.length_cons, List.length_nil, List.cons_append, List.nil_append, List.append_nil, Nat.reduceAdd, Nat.reduceSub, List.reduceReplicate, Nat.zero_add, List.replicate_zero, Nat.sub_self]
  have hOk := mem_tab (L := k_CHARACTERS.cps.toList) (p := okB) (by decide +kernel) (by decide +kernel) okB_big
  refine xs_seq ?_
  refine xs_forS (xe_vd rfl ?_)
  refine ⟨t, rfl, fun k ρ' o' => Hold (o = o' ∧ ∃ x : Sl, ρ' = [.val (.str t), x] ∧ ((TL.tl t).take k).all okB = true), hold ⟨rfl, _, rfl, rfl⟩, ?_, ?_⟩
  · rintro k c _ _ hc ⟨rfl, x, rfl, ha⟩
    refine xg_nd ?_
    have hc' : (TL.tl t)[k]? = some c := by rw [← hc]; simp
    repeat array_get_dec
    rw [hOk]
    refine bs_nb (fun h1 => ?_) fun h1 => ?_
    · repeat array_get_dec
      rw [all_not hc' h1] at q
      exact q
    · repeat array_get_dec
      exact hold ⟨rfl, _, rfl, all_take hc' ha h1⟩
  · rintro _ _ ⟨rfl, x, rfl, ha⟩
    repeat array_get_dec
    have hsz : t.cps.size = (TL.tl t).length := by rw [← len_tl]; rfl
    rw [hsz, List.take_length] at ha
    rw [ha] at q
    exact q
theorem ok_law (T : Txt K mg) (G__law_any_text : FnOk P w K mg base CX0 3 T.a__law_any_text T.fd__law_any_text ["_law_tape_here", "_law_most"] (spD K (S__law_any_text K))) (G__law_copy : FnOk P w K mg base CX0 3 T.a__law_copy T.fd__law_copy ["_law_thing"] (spD K (S__law_copy 2 K))) (G__law_in_order : FnOk P w K mg base CX0 1 T.a__law_in_order T.fd__law_in_order ["_law_text", "_law_edits"] (spD K (S__law_in_order K))) (G__law_same : FnOk P w K mg base CX0 6 T.a__law_same T.fd__law_same ["_law_actual", "_law_expected"] (spD K (S__law_same 2 K))) (G__law_take : FnOk P w K mg base CX0 1 T.a__law_take T.fd__law_take ["_law_tape_here", "_law_many"] (spD K (S__law_take K))) (G__law_tape : FnOk P w K mg base CX0 1 T.a__law_tape T.fd__law_tape ["_law_script"] (spD K (S__law_tape K))) (G_apply_edit : FnOk P w K mg base (L2N.CX P w) 2 T.a_apply_edit T.fd_apply_edit ["text", "edit"] (spD K (S_apply_edit K))) (G_apply_joint : FnOk P w K mg base (L2N.CX P w) 2 T.a_apply_joint T.fd_apply_joint ["text", "edits"] (spD K (S_apply_joint K))) (H__law_same : L2H.FnH P w K mg base CX0 6 T.a__law_same T.fd__law_same ["_law_actual", "_law_expected"] (spD K (S__law_same 2 K))) (H__law_in_order : L2H.FnH P w K mg base CX0 1 T.a__law_in_order T.fd__law_in_order ["_law_text", "_law_edits"] (spD K (S__law_in_order K))) : FnOk P w K mg base CX0 7 T.a_law T.fd_law ["_law_script"] (spD K (S_law K)) := by
  refine fnD T.F_law sc_law ?len fun cdv A outer s H E hr => ?body
  case len => intro dvs o R X h; first | (obtain ⟨rfl, _⟩ := h; rfl) | (obtain ⟨_, rfl, _⟩ := h; rfl) | (obtain ⟨_, _, rfl, _⟩ := h; rfl) | (obtain ⟨_, _, _, rfl, _⟩ := h; rfl) | (obtain ⟨_, _, _, _, rfl, _⟩ := h; rfl) | (obtain ⟨_, _, _, _, _, rfl, _⟩ := h; rfl) | (obtain ⟨_, _, _, _, _, _, rfl, _⟩ := h; rfl)
  have nd := sc_law.nd
  have hu := hu_of hr
  refine ⟨_, (pss_cons (ps_set (i := 1) nd rfl (Or.inl rfl) (pe_call G__law_tape (hr.mono (by first | decide | omega)) (by rfl) T.g__law_tape T.F__law_tape.kp T.b__law_tape .nil pass0 (pa_cons (pv 0) pa_nil))) (pss_cons (ps_set (i := 2) nd rfl (Or.inl rfl) (pe_call G__law_any_text (hr.mono (by first | decide | omega)) (by rfl) T.g__law_any_text T.F__law_any_text.kp T.b__law_any_text .nil pass0 (pa_cons (pv 1) (pa_cons pe_int pa_nil)))) (pss_cons (ps_set (i := 3) nd rfl (Or.inl rfl) (pe_lst pa_nil)) (pss_cons (ps_set (i := 4) nd rfl (Or.inl rfl) pe_int) (pss_cons (ps_for PassesOwn.never rfl (pi_range1 (by rfl) T.n_range (pa_cons (pe_call G__law_take (hr.mono (by first | decide | omega)) (by rfl) T.g__law_take T.F__law_take.kp T.b__law_take .nil pass0 (pa_cons (pv 1) (pa_cons pe_int pa_nil))) pa_nil)) (pg_name (i := 5) nd rfl (Or.inl rfl)) (pss_cons (ps_set (i := 6) nd rfl (Or.inl rfl) (pe_callB (call_min2 rfl) (by rfl) T.n_min (by decide +kernel) (pa_cons (pe_callB (DL.call_lenK (K := K) rfl) (by rfl) T.n_len (by decide +kernel) (pa_cons (pv 2) pa_nil)) (pa_cons (pe_op (DL.op_addK (K := K) rfl) (pv 4) (pe_call G__law_take (hr.mono (by first | decide | omega)) (by rfl) T.g__law_take T.F__law_take.kp T.b__law_take .nil pass0 (pa_cons (pv 1) (pa_cons pe_int pa_nil)))) pa_nil)))) (pss_cons (ps_set (i := 4) nd rfl (Or.inl rfl) (pe_callB (call_min2 rfl) (by rfl) T.n_min (by decide +kernel) (pa_cons (pe_callB (DL.call_lenK (K := K) rfl) (by rfl) T.n_len (by decide +kernel) (pa_cons (pv 2) pa_nil)) (pa_cons (pe_op (DL.op_addK (K := K) rfl) (pv 6) (pe_call G__law_take (hr.mono (by first | decide | omega)) (by rfl) T.g__law_take T.F__law_take.kp T.b__law_take .nil pass0 (pa_cons (pv 1) (pa_cons pe_int pa_nil)))) pa_nil)))) (pss_one (ps_expr (DL.pe_bmK (K := K) rfl (pe_bm PySem.F.plainAttrs_list PySem.F.slot_list_append PySem.F.type_list_append mt_append (pv 3) (pa_cons (pe_tup (pa_cons (pv 6) (pa_cons (pv 4) (pa_cons (pe_call G__law_any_text (hr.mono (by first | decide | omega)) (by rfl) T.g__law_any_text T.F__law_any_text.kp T.b__law_any_text .nil pass0 (pa_cons (pv 1) (pa_cons pe_int pa_nil))) pa_nil)))) pa_nil)))))))) (pss_cons (ps_set (i := 7) nd rfl (Or.inl rfl) (pe_call G__law_take (hr.mono (by first | decide | omega)) (by rfl) T.g__law_take T.F__law_take.kp T.b__law_take .nil pass0 (pa_cons (pv 1) (pa_cons pe_int pa_nil)))) (pss_cons (ps_if (PW.pt (pw_and (pt_cmpR (DL.op_eqK (K := K) rfl hr.units) (pv 7) pe_int (nomark _)) (pw_and1 (pt_cmpR (op_gt) (pe_callB (DL.call_lenK (K := K) rfl) (by rfl) T.n_len (by decide +kernel) (pa_cons (pv 3) pa_nil)) pe_int (nomark _))))) (pss_one (ps_asg (pe_tup (pa_cons (pe_ix (DL.ix_K (K := K) rfl) (pv 3) pe_int (fun _ _ => rfl)) (pa_cons (pe_ix (DL.ix_K (K := K) rfl) (pv 3) pe_int (fun _ _ => rfl)) pa_nil))) (DL.pg_tupK (K := K) (n := 2) rfl (pg_tup (by rfl) (pgs_cons (pg_sub (pv 3) pe_int set_list) (pgs_cons (pg_sub (pv 3) pe_int set_list) pgs_nil)))))) pss_nil) (pss_cons (ps_if (PW.pt (pw_and (pt_cmpR (DL.op_eqK (K := K) rfl hr.units) (pv 7) pe_int (nomark _)) (pw_and1 (pt_cmpR (DL.op_neK (K := K) rfl hr.units) (pv 3) (pe_lst pa_nil) (nomark _))))) (pss_one (ps_expr (DL.pe_bmK (K := K) rfl (pe_bm PySem.F.plainAttrs_list PySem.F.slot_list_append PySem.F.type_list_append mt_append (pv 3) (pa_cons (pe_tup (pa_cons (pe_callB (call_max2 rfl) (by rfl) T.n_max (by decide +kernel) (pa_cons pe_int (pa_cons (pe_op op_sub (pe_ix (DL.ix_K (K := K) rfl) (pe_ix (DL.ix_K (K := K) rfl) (pv 3) (pe_un un_neg pe_int) (fun _ _ => rfl)) pe_int (fun _ _ => rfl)) pe_int) pa_nil))) (pa_cons (pe_callB (DL.call_lenK (K := K) rfl) (by rfl) T.n_len (by decide +kernel) (pa_cons (pv 2) pa_nil)) (pa_cons pe_str pa_nil)))) pa_nil))))) pss_nil) (pss_cons (ps_set (i := 8) nd rfl (Or.inl rfl) (pe_call G__law_copy (hr.mono (by first | decide | omega)) (by rfl) T.g__law_copy T.F__law_copy.kp T.b__law_copy .nil pass0 (pa_cons (pv 3) pa_nil))) (pss_cons (ps_set (i := 9) nd rfl (Or.inl rfl) pe_non) (pss_cons (DL.ps_tryOnlyN (K := K) rfl rfl rfl ⟨by rfl, by decide, .inl T.g_InvalidEdit⟩ DL.takes0N (fun W pn xe tk po => (pss_one (ps_set (i := 9) nd rfl (Or.inl rfl) (pe_callS G_apply_joint (hr.mono (by first | decide | omega)) (by rfl) T.g_apply_joint T.F_apply_joint.kp T.b_apply_joint (fun σ => L2N.passAt tk σ) (pa_cons (pv 2) (pa_cons (pv 3) pa_nil)))))) (fun a oe cls d pn hz hf => (pss_one (ps_ret (pe_and (pe_not (L2H.pe_callH (E := fun _ => E0) H__law_in_order (DL.roomH_suite (hr.mono (by first | decide | omega))) (DL.hot_suite hz hf) (by rfl) T.g__law_in_order T.F__law_in_order.kp T.b__law_in_order (fun _ => DL.passH) (pa_cons (pv 2) (pa_cons (pv 3) pa_nil)))) (pe_one (L2H.pe_callH (E := fun _ => E0) H__law_same (DL.roomH_suite (hr.mono (by first | decide | omega))) (DL.hot_suite hz hf) (by rfl) T.g__law_same T.F__law_same.kp T.b__law_same (fun _ => DL.passH) (pa_cons (pv 3) (pa_cons (pv 8) pa_nil))))))))) (pss_cons (ps_set (i := 10) nd rfl (Or.inl rfl) (pv 2)) (pss_cons (ps_for PassesOwn.never rfl (pi_range1 (by rfl) T.n_range (pa_cons (pe_callB (DL.call_lenK (K := K) rfl) (by rfl) T.n_len (by decide +kernel) (pa_cons (pv 3) pa_nil)) pa_nil)) (pg_name (i := 5) nd rfl (Or.inl rfl)) (pss_one (ps_set (i := 10) nd rfl (Or.inl rfl) (pe_callS G_apply_edit (hr.mono (by first | decide | omega)) (by rfl) T.g_apply_edit T.F_apply_edit.kp T.b_apply_edit (fun _ => DL.passAN) (pa_cons (pv 10) (pa_cons (pe_ix (DL.ix_K (K := K) rfl) (pv 3) (pe_op op_sub (pe_op op_sub (pe_callB (DL.call_lenK (K := K) rfl) (by rfl) T.n_len (by decide +kernel) (pa_cons (pv 3) pa_nil)) pe_int) (pv 5)) (fun _ _ => rfl)) pa_nil)))))) (pss_one (ps_ret (pe_and (pe_call G__law_in_order (hr.mono (by first | decide | omega)) (by rfl) T.g__law_in_order T.F__law_in_order.kp T.b__law_in_order .nil pass0 (pa_cons (pv 2) (pa_cons (pv 3) pa_nil))) (pe_and (pe_call G__law_same (hr.mono (by first | decide | omega)) (by rfl) T.g__law_same T.F__law_same.kp T.b__law_same .nil pass0 (pa_cons (pv 9) (pa_cons (pv 10) pa_nil))) (pe_one (pe_call G__law_same (hr.mono (by first | decide | omega)) (by rfl) T.g__law_same T.F__law_same.kp T.b__law_same .nil pass0 (pa_cons (pv 3) (pa_cons (pv 8) pa_nil))))))))))))))))))))), ?_⟩
  intro dvs o R X h
  have st : ∀ z, dvs = z → startD N_law.length dvs = startD 11 z := fun z e => by rw [e]; rfl
  obtain ⟨a, ns, rfl, rfl, hn, q⟩ := h
  rw [st _ rfl]; clear st; simp only [startD, toSl, List.map_cons, List.map_nil, List.length_cons, List.length_nil, List.cons_append, List.nil_append, List.append_nil, Nat.reduceAdd, Nat.reduceSub, List.reduceReplicate, Nat.zero_add, List.replicate_zero, Nat.sub_self]
  have hs : sizeLine = 16777216 := sizeLine_eq
  repeat array_get_dec
  refine ⟨a, ns, rfl, rfl, hn, fun cs s h0 h1 h2 => ?_⟩
  repeat array_get_dec
  refine xf_tape rfl ⟨h0, by decide, by decide, h1, h2, by decide⟩ fun τ => ?_
  repeat array_get_dec
  refine ⟨τ, 14, rfl, rfl, by decide, by decide, fun t ht => ?_⟩
  have lt : t.length ≤ 700 := ht.len
  repeat array_get_dec
  refine xs_forR1 ?_
  repeat array_get_dec
  refine ⟨τ, 6, rfl, rfl, by decide, by decide, fun m m0 m6 => ?_⟩
  repeat array_get_dec
  refine ⟨by omega, by omega, fun k ρ' o' => Hold (tapeOb K τ = o' ∧ ∃ (es : List Ed) (b : Nat) (x5 x6 : Sl), ρ' = [.raw (.ref a), .raw (.ref τ), .val (.str t), .own (.lst (es.map edD)), .val (.int b), x5, x6, .no, .no, .no, .no] ∧ es.length = k ∧ GoodE es ∧ b ≤ t.length), hold ⟨rfl, [], 0, _, _, rfl, rfl, (fun _ h => (nomatch h)), Nat.zero_le _⟩, ?_, ?_⟩
  · rintro k _ _ hk ⟨rfl, es, b, x5, x6, rfl, hl, g, hb⟩
    refine xg_nd ?_
    generalize Sl.val (PyData.int (0 + (k : Int))) = y5
    have hk6 : k < 6 := by omega
    repeat array_get_dec
    refine xc_lenS (by omega) ?_
    repeat array_get_dec
    refine ⟨τ, 4, rfl, rfl, by decide, by decide, fun z z0 z1 => ?_⟩
    repeat array_get_dec
    obtain ⟨s1, hs1⟩ : ∃ j : Nat, (if (b : Int) + z < (t.length : Int) then (b : Int) + z else (t.length : Int)) = j := ⟨(if (b : Int) + z < (t.length : Int) then (b : Int) + z else (t.length : Int)).toNat, by split <;> omega⟩
    have hs2 : s1 ≤ t.length := by split at hs1 <;> omega
    rw [hs1]
    repeat array_get_dec
    refine xc_lenS (by omega) ?_
    repeat array_get_dec
    refine ⟨τ, 4, rfl, rfl, by decide, by decide, fun y y0 y1 => ?_⟩
    repeat array_get_dec
    obtain ⟨e1, he1⟩ : ∃ j : Nat, (if (s1 : Int) + y < (t.length : Int) then (s1 : Int) + y else (t.length : Int)) = j := ⟨(if (s1 : Int) + y < (t.length : Int) then (s1 : Int) + y else (t.length : Int)).toNat, by split <;> omega⟩
    have he2 : e1 ≤ t.length := by split at he1 <;> omega
    rw [he1]
    repeat array_get_dec
    refine ⟨τ, 2, rfl, rfl, by decide, by decide, fun n hn => ?_⟩
    have room : (es.map edD).length < sizeLine := by rw [List.length_map, hl, hs]; omega
    repeat array_get_dec
    refine xm_append room rfl ?_
    repeat array_get_dec
    refine hold ⟨rfl, es ++ [(s1, e1, n)], e1, y5, _, by rw [List.map_append]; rfl, by rw [List.length_append, hl]; rfl, fun x hx => ?_, he2⟩
    rcases List.mem_append.mp hx with hx | hx
    · exact g x hx
    · rw [List.mem_singleton.mp hx]
      exact ⟨List.all_eq_true.mpr fun c hc => okB_okc (hn.ok c hc), hn.len⟩
  rintro _ _ ⟨rfl, es, b, x5, x6, rfl, hl, g, hb⟩
  have hl5 : es.length ≤ 5 := by omega
  clear hl hb
  repeat array_get_dec
  refine ⟨τ, 8, rfl, rfl, by decide, by decide, fun c c0 c8 => ⟨rfl, asr_d (hrest _ _ ?_)⟩⟩
  clear hrest
  simp only [List.set_cons_succ, List.set_cons_zero]
  refine xs_cut (fun ρ' o' => Hold (tapeOb K τ = o' ∧ ∃ (es : List Ed), ρ' = [.raw (.ref a), .raw (.ref τ), .val (.str t), .own (.lst (es.map edD)), .val (.int b), x5, x6, .val (.int c), .no, .no, .no] ∧ es.length ≤ 5 ∧ GoodE es)) ?_ ?_
  · repeat array_get_dec
    refine bs_d (fun hc => ?_) fun hc => ?_
    rotate_left
    · repeat array_get_dec
      exact hold ⟨rfl, es, rfl, hl5, g⟩
    · repeat array_get_dec
      refine bs_d (fun h2 => ?_) fun h2 => ?_
      rotate_left
      · repeat array_get_dec
        exact hold ⟨rfl, es, rfl, hl5, g⟩
      · obtain ⟨e0, e1, r, rfl⟩ : ∃ e0 e1 r, es = e0 :: e1 :: r := by
          match es, h2 with
          | [], z => simp at z
          | [_], z => simp at z
          | e0 :: e1 :: r, _ => exact ⟨e0, e1, r, rfl⟩
        simp only [List.map_cons]
        repeat array_get_dec
        refine xr_ixL isl_o (atD_of (j := 1) (v := edD e1) rfl rfl) ?_
        repeat array_get_dec
        refine xr_ixL isl_o (atD_of (j := 0) (v := edD e0) rfl rfl) ?_
        repeat array_get_dec
        refine xg_subL ?_
        repeat array_get_dec
        refine ⟨3, _, 0, 0, rfl, rfl, rfl, ixN_of (j := 0) (by simp), ?_⟩
        repeat array_get_dec
        refine xg_subL ?_
        repeat array_get_dec
        refine ⟨3, _, 1, 1, rfl, rfl, rfl, ixN_of (j := 1) (by simp), ?_⟩
        repeat array_get_dec
        exact hold ⟨rfl, e1 :: e0 :: r, rfl, hl5, fun e he => g e (by
          have : e = e1 ∨ e = e0 ∨ e ∈ r := by simpa using he
          rcases this with rfl | rfl | h
          · simp
          · simp
          · simp [h])⟩
  rintro _ _ ⟨rfl, es, rfl, hl, g2⟩
  clear hl5 g
  refine xs_cut (fun ρ' o' => Hold (tapeOb K τ = o' ∧ ∃ (es : List Ed), ρ' = [.raw (.ref a), .raw (.ref τ), .val (.str t), .own (.lst (es.map edD)), .val (.int b), x5, x6, .val (.int c), .no, .no, .no] ∧ es.length ≤ 6 ∧ GoodE es)) ?_ ?_
  · repeat array_get_dec
    refine bs_d (fun hc => ?_) fun hc => ?_
    rotate_left
    · repeat array_get_dec
      exact hold ⟨rfl, es, rfl, by omega, g2⟩
    · repeat array_get_dec
      refine xr_neL isl_o isl_n (ed_shaped g2) rfl ?_
      repeat array_get_dec
      refine ⟨fun h2 => ?_, fun h2 => ?_⟩
      rotate_left
      · repeat array_get_dec
        exact hold ⟨rfl, es, rfl, by omega, g2⟩
      · obtain ⟨pre, e, rfl⟩ : ∃ pre e, es = pre ++ [e] := by
          rcases List.eq_nil_or_concat es with h | ⟨p, x, h⟩
          · exact absurd h (ed_some h2)
          · exact ⟨p, x, by rw [h, List.concat_eq_append]⟩
        rw [List.map_append, List.map_singleton]
        repeat array_get_dec
        refine xr_ixL isl_o atI_last ?_
        repeat array_get_dec
        refine xr_ixT (atD_of (j := 1) rfl rfl) ?_
        repeat array_get_dec
        refine xc_lenS (by omega) ?_
        repeat array_get_dec
        have em : (if (e.2.1 : Int) - 1 > 0 then (e.2.1 : Int) - 1 else 0) = ((e.2.1 - 1 : Nat) : Int) := by split <;> omega
        rw [em]
        have room : (pre.map edD ++ [edD e]).length < sizeLine := by
          rw [List.length_append] at hl
          rw [List.length_append, List.length_map, hs]
          have : [e].length = 1 := rfl
          have : [edD e].length = 1 := rfl
          omega
        refine xm_append room rfl ?_
        repeat array_get_dec
        refine hold ⟨rfl, pre ++ [e] ++ [(e.2.1 - 1, t.length, Str.ofString "")], by simp, by rw [List.length_append]; show _ + 1 ≤ 6; omega, fun x hx => ?_⟩
        rcases List.mem_append.mp hx with hx | hx
        · exact g2 x hx
        · rw [List.mem_singleton.mp hx]
          exact ⟨show (TL.tl (Str.ofString "")).all okB = true by decide +kernel, show (Str.ofString "").length ≤ 100 by decide +kernel⟩
  rintro _ _ ⟨rfl, es, rfl, hl2, g⟩
  clear hl g2
  repeat array_get_dec
  refine ⟨_, rfl, ed_smc (by omega), rfl, asr_n (hrest _ _ ?_)⟩
  clear hrest
  repeat array_get_dec
  simp only [List.set_cons_succ, List.set_cons_zero]
  have htl := len_tl t
  cases ho : inO t.length 0 es with
  | false =>
    refine xs_tryOnly (fun ex ρ' o' => ExN K "InvalidEdit" ex ∧ o' = tapeOb K τ ∧ ρ' = [.raw (.ref a), .raw (.ref τ), .val (.str t), .val (.list (es.map edD)), .val (.int b), x5, x6, .val (.int c), .own (.lst (es.map edD)), .val .none, .no]) (fun W => ?_) ?_
    · repeat array_get_dec
      exact ⟨t, es, rfl, by omega, by omega, g, fun h => by rw [ho] at h; (cases h), fun _ ex hx => ⟨hx, rfl, rfl⟩⟩
    · rintro cls fs _ _ ⟨⟨hc, rfl⟩, rfl, rfl⟩
      have hc : cls = .ref T.e_InvalidEdit := Option.some.inj (Option.some.inj (hc.symm.trans T.i_InvalidEdit))
      subst hc
      refine ⟨true, PySem.W.exm_ref T.b_InvalidEdit T.d_InvalidEdit T.t_InvalidEdit T.s_InvalidEdit_InvalidEdit, fun _ a1 d hd => ?_, fun z => nomatch z⟩
      repeat array_get_dec
      refine ⟨t, es, rfl, by omega, ?_⟩
      rw [ho]
      repeat array_get_dec
      exact ⟨_, rfl, ed_sm (by omega), q _⟩
  | true =>
    refine xs_tryOnly (fun _ _ _ => False) (fun W => ?_) (fun _ _ _ _ z => z.elim)
    repeat array_get_dec
    refine ⟨t, es, rfl, by omega, by omega, g, fun _ r hr => ⟨rfl, asr_d (hrest _ _ ?_)⟩, fun h => by rw [ho] at h; cases h⟩
    clear hrest
    repeat array_get_dec
    simp only [List.set_cons_succ, List.set_cons_zero]
    refine xs_forR1 ?_
    repeat array_get_dec
    rw [List.length_map]
    refine ⟨by omega, by omega, fun k ρ' o' => Hold (tapeOb K τ = o' ∧ ∃ (x : Str) (y5 : Sl), ρ' = [.raw (.ref a), .raw (.ref τ), .val (.str t), .val (.list (es.map edD)), .val (.int b), y5, x6, .val (.int c), .own (.lst (es.map edD)), .val (.str r), .val (.str x)] ∧ TL.tl x = jx (TL.tl t) (edAt es (es.length - k)) (es.drop (es.length - k))), hold ⟨rfl, t, _, rfl, by rw [Nat.sub_zero, List.drop_length, jx_end]⟩, ?_, ?_⟩
    · rintro k _ _ hk ⟨rfl, x, y5, rfl, hx⟩
      have hk2 : k < es.length := by omega
      obtain ⟨j, hj⟩ : ∃ j, es.length - k = j + 1 := ⟨es.length - k - 1, by omega⟩
      have hj2 : es.length - (k + 1) = j := by omega
      have hje : j < es.length := by omega
      have he := List.getElem?_eq_getElem hje
      obtain ⟨i1, i2⟩ := inO_at (show inO (TL.tl t).length 0 es = true by rw [← htl]; exact ho) j (by omega)
      have hd := drop_at he
      rw [hd] at i1
      obtain ⟨k1, k2, k3, k4⟩ := inO_cons i1
      have ea : edAt es (j + 1) = es[j].2.1 := by simp only [edAt, he]
      have ⟨g1, g2⟩ := g es[j] (List.getElem_mem hje)
      rw [hj, ea] at hx
      have st := jx_step (r := es.drop (j + 1)) k1 k2 k3
      have lx := jx_len k4 k3 (fun x hx => g x (List.mem_of_mem_drop hx))
      rw [← hx, ← len_tl, ← htl, List.length_drop] at lx
      have gx := jx_ge (es.drop (j + 1)) k3
      rw [← hx, ← len_tl] at gx
      rw [← hx, ← hd] at st
      have at_j : atI (es.map edD) ((es.length : Int) - 1 - (0 + (k : Int))) = some (edD es[j]) := atD_of (j := j) (by omega) (by rw [List.getElem?_map, he]; rfl)
      generalize es[j] = e at *
      refine xg_nd ?_
      repeat array_get_dec
      rw [List.length_map]
      repeat array_get_dec
      refine xr_ixL isl_d at_j ?_
      repeat array_get_dec
      refine ⟨x, e.1, e.2.1, e.2.2, rfl, by omega, by omega, fun _ r2 hr2 => ?_, fun z => absurd (show Fits x e.1 e.2.1 e.2.2 from ⟨by omega, by omega, by omega, g1, by omega⟩) z⟩
      repeat array_get_dec
      rw [Int.toNat_natCast, Int.toNat_natCast, st] at hr2
      exact hold ⟨rfl, r2, _, rfl, by rw [hj2]; exact hr2⟩
    · rintro _ _ ⟨rfl, x, y5, rfl, hx⟩
      rw [show es.length - ((es.length : Nat) : Int).toNat = 0 by omega, List.drop_zero] at hx
      obtain rfl : x = r := str_ext (by rw [hx, hr]; rfl)
      repeat array_get_dec
      refine ⟨t, es, rfl, by omega, ?_⟩
      rw [ho]
      repeat array_get_dec
      refine ⟨_, rfl, .str, ?_⟩
      repeat array_get_dec
      exact ⟨_, rfl, ed_sm (by omega), q _⟩
theorem all_ok (T : Txt K mg) : FnOk P w K mg base CX0 7 T.a_law T.fd_law ["_law_script"] (spD K (S_law K)) :=
  have Gt : FnOk P w K mg base CX0 1 T.a__law_take T.fd__law_take ["_law_tape_here", "_law_many"] (spD K (S__law_take K)) := ok__law_take T
  have Gr : FnOk P w K mg base CX0 1 T.a_has_right_characters T.fd_has_right_characters ["value"] (spD K (S_has_right_characters K)) := ok_has_right_characters T
  ok_law T (ok__law_any_text T (ok__law_char T Gt) (ok__law_snippet T Gt) Gt) (copy_all T 2) (ok__law_in_order T) (same_all T 2) Gt (ok__law_tape T) (ok_apply_edit T Gr) (ok_apply_joint T Gr) (same_allH T 2) (hk__law_in_order T)
end
theorem all_mk {l : PySem.W.OpenLaw} {w : World} {K : PySem.W.Frag} {h : Heap} {mg : Str → Option Value} {fa : Addr} {f_has_right_characters f_apply_edit f_apply_joint f__law_tape f__law_take f__law_is_integer f__law_same_items f__law_same f__law_copy f__law_snippet f__law_char f__law_any_text f__law_in_order f_law : Addr} (X : K.In h) (G : h.Ns mainGlobals mg) (hfa : mg "law" = some (.ref fa))
    {od_has_right_characters od_apply_edit od_apply_joint od__law_tape od__law_take od__law_is_integer od__law_same_items od__law_same od__law_copy od__law_snippet od__law_char od__law_any_text od__law_in_order od_law : Option Addr} {an_has_right_characters an_apply_edit an_apply_joint an__law_tape an__law_take an__law_is_integer an__law_same_items an__law_same an__law_copy an__law_snippet an__law_char an__law_any_text an__law_in_order an_law : Option Addr} {sl_has_right_characters sl_apply_edit sl_apply_joint sl__law_tape sl__law_take sl__law_is_integer sl__law_same_items sl__law_same sl__law_copy sl__law_snippet sl__law_char sl__law_any_text sl__law_in_order sl_law : Array (Option Value)} {oc_has_right_characters oc_apply_edit oc_apply_joint oc__law_tape oc__law_take oc__law_is_integer oc__law_same_items oc__law_same oc__law_copy oc__law_snippet oc__law_char oc__law_any_text oc__law_in_order oc_law : Value} {kV_has_right_characters kV_apply_edit kV_apply_joint kV__law_tape kV__law_take kV__law_is_integer kV__law_same_items kV__law_same kV__law_copy kV__law_snippet kV__law_char kV__law_any_text kV__law_in_order kV_law : Value} {dc_has_right_characters dc_apply_edit dc_apply_joint dc__law_tape dc__law_take dc__law_is_integer dc__law_same_items dc__law_same dc__law_copy dc__law_snippet dc__law_char dc__law_any_text dc__law_in_order dc_law : Value} {pm_has_right_characters pm_apply_edit pm_apply_joint pm__law_tape pm__law_take pm__law_is_integer pm__law_same_items pm__law_same pm__law_copy pm__law_snippet pm__law_char pm__law_any_text pm__law_in_order pm_law : Value} {cd_has_right_characters cd_apply_edit cd_apply_joint cd__law_tape cd__law_take cd__law_is_integer cd__law_same_items cd__law_same cd__law_copy cd__law_snippet cd__law_char cd__law_any_text cd__law_in_order cd_law : Value} {ct_has_right_characters ct_apply_edit ct_apply_joint ct__law_tape ct__law_take ct__law_is_integer ct__law_same_items ct__law_same ct__law_copy ct__law_snippet ct__law_char ct__law_any_text ct__law_in_order ct_law : Value}
    (a_has_right_characters : PySem.W.nsIn K mainGlobals "has_right_characters" = some (some (.ref f_has_right_characters))) (l_has_right_characters : K.lookup f_has_right_characters = some ⟨oc_has_right_characters, od_has_right_characters, .func (PySem.W.fnOf "has_right_characters" "has_right_characters" (defArgs s_has_right_characters) (defBody s_has_right_characters) (defScope s_has_right_characters) .none kV_has_right_characters dc_has_right_characters pm_has_right_characters an_has_right_characters cd_has_right_characters ct_has_right_characters), sl_has_right_characters⟩) (c_has_right_characters : PySem.W.codeIn K cd_has_right_characters "has_right_characters" = true) (k_has_right_characters : PySem.W.keepIn K (.ref f_has_right_characters) = true)
    (a_apply_edit : PySem.W.nsIn K mainGlobals "apply_edit" = some (some (.ref f_apply_edit))) (l_apply_edit : K.lookup f_apply_edit = some ⟨oc_apply_edit, od_apply_edit, .func (PySem.W.fnOf "apply_edit" "apply_edit" (defArgs s_apply_edit) (defBody s_apply_edit) (defScope s_apply_edit) .none kV_apply_edit dc_apply_edit pm_apply_edit an_apply_edit cd_apply_edit ct_apply_edit), sl_apply_edit⟩) (c_apply_edit : PySem.W.codeIn K cd_apply_edit "apply_edit" = true) (k_apply_edit : PySem.W.keepIn K (.ref f_apply_edit) = true)
    (a_apply_joint : PySem.W.nsIn K mainGlobals "apply_joint" = some (some (.ref f_apply_joint))) (l_apply_joint : K.lookup f_apply_joint = some ⟨oc_apply_joint, od_apply_joint, .func (PySem.W.fnOf "apply_joint" "apply_joint" (defArgs s_apply_joint) (defBody s_apply_joint) (defScope s_apply_joint) .none kV_apply_joint dc_apply_joint pm_apply_joint an_apply_joint cd_apply_joint ct_apply_joint), sl_apply_joint⟩) (c_apply_joint : PySem.W.codeIn K cd_apply_joint "apply_joint" = true) (k_apply_joint : PySem.W.keepIn K (.ref f_apply_joint) = true)
    (a__law_tape : PySem.W.nsIn K mainGlobals "_law_tape" = some (some (.ref f__law_tape))) (l__law_tape : K.lookup f__law_tape = some ⟨oc__law_tape, od__law_tape, .func (PySem.W.fnOf "_law_tape" "_law_tape" (defArgs s__law_tape) (defBody s__law_tape) (defScope s__law_tape) .none kV__law_tape dc__law_tape pm__law_tape an__law_tape cd__law_tape ct__law_tape), sl__law_tape⟩) (c__law_tape : PySem.W.codeIn K cd__law_tape "_law_tape" = true) (k__law_tape : PySem.W.keepIn K (.ref f__law_tape) = true)
    (a__law_take : PySem.W.nsIn K mainGlobals "_law_take" = some (some (.ref f__law_take))) (l__law_take : K.lookup f__law_take = some ⟨oc__law_take, od__law_take, .func (PySem.W.fnOf "_law_take" "_law_take" (defArgs s__law_take) (defBody s__law_take) (defScope s__law_take) .none kV__law_take dc__law_take pm__law_take an__law_take cd__law_take ct__law_take), sl__law_take⟩) (c__law_take : PySem.W.codeIn K cd__law_take "_law_take" = true) (k__law_take : PySem.W.keepIn K (.ref f__law_take) = true)
    (a__law_is_integer : PySem.W.nsIn K mainGlobals "_law_is_integer" = some (some (.ref f__law_is_integer))) (l__law_is_integer : K.lookup f__law_is_integer = some ⟨oc__law_is_integer, od__law_is_integer, .func (PySem.W.fnOf "_law_is_integer" "_law_is_integer" (defArgs s__law_is_integer) (defBody s__law_is_integer) (defScope s__law_is_integer) .none kV__law_is_integer dc__law_is_integer pm__law_is_integer an__law_is_integer cd__law_is_integer ct__law_is_integer), sl__law_is_integer⟩) (c__law_is_integer : PySem.W.codeIn K cd__law_is_integer "_law_is_integer" = true) (k__law_is_integer : PySem.W.keepIn K (.ref f__law_is_integer) = true)
    (a__law_same_items : PySem.W.nsIn K mainGlobals "_law_same_items" = some (some (.ref f__law_same_items))) (l__law_same_items : K.lookup f__law_same_items = some ⟨oc__law_same_items, od__law_same_items, .func (PySem.W.fnOf "_law_same_items" "_law_same_items" (defArgs s__law_same_items) (defBody s__law_same_items) (defScope s__law_same_items) .none kV__law_same_items dc__law_same_items pm__law_same_items an__law_same_items cd__law_same_items ct__law_same_items), sl__law_same_items⟩) (c__law_same_items : PySem.W.codeIn K cd__law_same_items "_law_same_items" = true) (k__law_same_items : PySem.W.keepIn K (.ref f__law_same_items) = true)
    (a__law_same : PySem.W.nsIn K mainGlobals "_law_same" = some (some (.ref f__law_same))) (l__law_same : K.lookup f__law_same = some ⟨oc__law_same, od__law_same, .func (PySem.W.fnOf "_law_same" "_law_same" (defArgs s__law_same) (defBody s__law_same) (defScope s__law_same) .none kV__law_same dc__law_same pm__law_same an__law_same cd__law_same ct__law_same), sl__law_same⟩) (c__law_same : PySem.W.codeIn K cd__law_same "_law_same" = true) (k__law_same : PySem.W.keepIn K (.ref f__law_same) = true)
    (a__law_copy : PySem.W.nsIn K mainGlobals "_law_copy" = some (some (.ref f__law_copy))) (l__law_copy : K.lookup f__law_copy = some ⟨oc__law_copy, od__law_copy, .func (PySem.W.fnOf "_law_copy" "_law_copy" (defArgs s__law_copy) (defBody s__law_copy) (defScope s__law_copy) .none kV__law_copy dc__law_copy pm__law_copy an__law_copy cd__law_copy ct__law_copy), sl__law_copy⟩) (c__law_copy : PySem.W.codeIn K cd__law_copy "_law_copy" = true) (k__law_copy : PySem.W.keepIn K (.ref f__law_copy) = true)
    (a__law_snippet : PySem.W.nsIn K mainGlobals "_law_snippet" = some (some (.ref f__law_snippet))) (l__law_snippet : K.lookup f__law_snippet = some ⟨oc__law_snippet, od__law_snippet, .func (PySem.W.fnOf "_law_snippet" "_law_snippet" (defArgs s__law_snippet) (defBody s__law_snippet) (defScope s__law_snippet) .none kV__law_snippet dc__law_snippet pm__law_snippet an__law_snippet cd__law_snippet ct__law_snippet), sl__law_snippet⟩) (c__law_snippet : PySem.W.codeIn K cd__law_snippet "_law_snippet" = true) (k__law_snippet : PySem.W.keepIn K (.ref f__law_snippet) = true)
    (a__law_char : PySem.W.nsIn K mainGlobals "_law_char" = some (some (.ref f__law_char))) (l__law_char : K.lookup f__law_char = some ⟨oc__law_char, od__law_char, .func (PySem.W.fnOf "_law_char" "_law_char" (defArgs s__law_char) (defBody s__law_char) (defScope s__law_char) .none kV__law_char dc__law_char pm__law_char an__law_char cd__law_char ct__law_char), sl__law_char⟩) (c__law_char : PySem.W.codeIn K cd__law_char "_law_char" = true) (k__law_char : PySem.W.keepIn K (.ref f__law_char) = true)
    (a__law_any_text : PySem.W.nsIn K mainGlobals "_law_any_text" = some (some (.ref f__law_any_text))) (l__law_any_text : K.lookup f__law_any_text = some ⟨oc__law_any_text, od__law_any_text, .func (PySem.W.fnOf "_law_any_text" "_law_any_text" (defArgs s__law_any_text) (defBody s__law_any_text) (defScope s__law_any_text) .none kV__law_any_text dc__law_any_text pm__law_any_text an__law_any_text cd__law_any_text ct__law_any_text), sl__law_any_text⟩) (c__law_any_text : PySem.W.codeIn K cd__law_any_text "_law_any_text" = true) (k__law_any_text : PySem.W.keepIn K (.ref f__law_any_text) = true)
    (a__law_in_order : PySem.W.nsIn K mainGlobals "_law_in_order" = some (some (.ref f__law_in_order))) (l__law_in_order : K.lookup f__law_in_order = some ⟨oc__law_in_order, od__law_in_order, .func (PySem.W.fnOf "_law_in_order" "_law_in_order" (defArgs s__law_in_order) (defBody s__law_in_order) (defScope s__law_in_order) .none kV__law_in_order dc__law_in_order pm__law_in_order an__law_in_order cd__law_in_order ct__law_in_order), sl__law_in_order⟩) (c__law_in_order : PySem.W.codeIn K cd__law_in_order "_law_in_order" = true) (k__law_in_order : PySem.W.keepIn K (.ref f__law_in_order) = true)
    (a_law : PySem.W.nsIn K mainGlobals "law" = some (some (.ref f_law))) (l_law : K.lookup f_law = some ⟨oc_law, od_law, .func (PySem.W.fnOf "law" "law" (defArgs s_law) (defBody s_law) (defScope s_law) .none kV_law dc_law pm_law an_law cd_law ct_law), sl_law⟩) (c_law : PySem.W.codeIn K cd_law "law" = true) (k_law : PySem.W.keepIn K (.ref f_law) = true)
    (z_abs : PySem.W.nsIn K mainGlobals "abs" = some none) (z_bool : PySem.W.nsIn K mainGlobals "bool" = some none) (z_dict : PySem.W.nsIn K mainGlobals "dict" = some none) (z_int : PySem.W.nsIn K mainGlobals "int" = some none) (z_isinstance : PySem.W.nsIn K mainGlobals "isinstance" = some none) (z_len : PySem.W.nsIn K mainGlobals "len" = some none) (z_list : PySem.W.nsIn K mainGlobals "list" = some none) (z_max : PySem.W.nsIn K mainGlobals "max" = some none) (z_min : PySem.W.nsIn K mainGlobals "min" = some none) (z_range : PySem.W.nsIn K mainGlobals "range" = some none) (z_str : PySem.W.nsIn K mainGlobals "str" = some none) (z_tuple : PySem.W.nsIn K mainGlobals "tuple" = some none) {t_MOST : Tok} (z_MOST : PySem.W.nsIn K mainGlobals "MOST" = some (some (.int 4000 t_MOST))) {t_CHARACTERS : Tok} (z_CHARACTERS : PySem.W.nsIn K mainGlobals "CHARACTERS" = some (some (.str k_CHARACTERS t_CHARACTERS))) {e_ServerError : Addr} (i_ServerError : PySem.W.nsIn K mainGlobals "ServerError" = some (some (.ref e_ServerError))) (x_ServerError : PySem.W.excIn K e_ServerError [.type "ValueError", .type "Exception", .type "BaseException", .type "object"] "ValueError.__new__" = true) (k_ServerError : PySem.W.keepIn K (.ref e_ServerError) = true) (b_ServerError : PySem.W.subIn K (.ref e_ServerError) (.type "BaseException") = some true) (t_ServerError : PySem.W.typeIn K (.ref e_ServerError) = some (.type "type")) (d_ServerError : PySem.W.hasDictIn K e_ServerError = true) {e_InvalidEdit : Addr} (i_InvalidEdit : PySem.W.nsIn K mainGlobals "InvalidEdit" = some (some (.ref e_InvalidEdit))) (x_InvalidEdit : PySem.W.excIn K e_InvalidEdit [.type "ValueError", .type "Exception", .type "BaseException", .type "object"] "ValueError.__new__" = true) (k_InvalidEdit : PySem.W.keepIn K (.ref e_InvalidEdit) = true) (b_InvalidEdit : PySem.W.subIn K (.ref e_InvalidEdit) (.type "BaseException") = some true) (t_InvalidEdit : PySem.W.typeIn K (.ref e_InvalidEdit) = some (.type "type")) (d_InvalidEdit : PySem.W.hasDictIn K e_InvalidEdit = true) (s_InvalidEdit_InvalidEdit : PySem.W.subIn K (.ref e_InvalidEdit) (.ref e_InvalidEdit) = some true)
    : ∃ fd : FuncData, (∀ (s : Shared) (v : Value), BindsTo s fd ⟨[v], []⟩ [("_law_script", v)]) ∧ ∀ base : Heap, K.In base → base.Ns mainGlobals mg → FnOk l.prog w K mg base CX0 7 fa fd ["_law_script"] (spD K (S_law K)) := by
  have e := hfa.symm.trans (PySem.W.mg_of X G a_law)
  cases e
  have F_has_right_characters := fun_mk (st := s_has_right_characters) l_has_right_characters c_has_right_characters k_has_right_characters
  have b_has_right_characters := F_has_right_characters.binds (ps := ["value"]) fun _ _ _ _ _ _ us hl => match us, hl with | [_], _ => rfl
  have F_apply_edit := fun_mk (st := s_apply_edit) l_apply_edit c_apply_edit k_apply_edit
  have b_apply_edit := F_apply_edit.binds (ps := ["text", "edit"]) fun _ _ _ _ _ _ us hl => match us, hl with | [_, _], _ => rfl
  have F_apply_joint := fun_mk (st := s_apply_joint) l_apply_joint c_apply_joint k_apply_joint
  have b_apply_joint := F_apply_joint.binds (ps := ["text", "edits"]) fun _ _ _ _ _ _ us hl => match us, hl with | [_, _], _ => rfl
  have F__law_tape := fun_mk (st := s__law_tape) l__law_tape c__law_tape k__law_tape
  have b__law_tape := F__law_tape.binds (ps := ["_law_script"]) fun _ _ _ _ _ _ us hl => match us, hl with | [_], _ => rfl
  have F__law_take := fun_mk (st := s__law_take) l__law_take c__law_take k__law_take
  have b__law_take := F__law_take.binds (ps := ["_law_tape_here", "_law_many"]) fun _ _ _ _ _ _ us hl => match us, hl with | [_, _], _ => rfl
  have F__law_is_integer := fun_mk (st := s__law_is_integer) l__law_is_integer c__law_is_integer k__law_is_integer
  have b__law_is_integer := F__law_is_integer.binds (ps := ["_law_actual"]) fun _ _ _ _ _ _ us hl => match us, hl with | [_], _ => rfl
  have F__law_same_items := fun_mk (st := s__law_same_items) l__law_same_items c__law_same_items k__law_same_items
  have b__law_same_items := F__law_same_items.binds (ps := ["_law_actual", "_law_expected"]) fun _ _ _ _ _ _ us hl => match us, hl with | [_, _], _ => rfl
  have F__law_same := fun_mk (st := s__law_same) l__law_same c__law_same k__law_same
  have b__law_same := F__law_same.binds (ps := ["_law_actual", "_law_expected"]) fun _ _ _ _ _ _ us hl => match us, hl with | [_, _], _ => rfl
  have F__law_copy := fun_mk (st := s__law_copy) l__law_copy c__law_copy k__law_copy
  have b__law_copy := F__law_copy.binds (ps := ["_law_thing"]) fun _ _ _ _ _ _ us hl => match us, hl with | [_], _ => rfl
  have F__law_snippet := fun_mk (st := s__law_snippet) l__law_snippet c__law_snippet k__law_snippet
  have b__law_snippet := F__law_snippet.binds (ps := ["_law_tape_here"]) fun _ _ _ _ _ _ us hl => match us, hl with | [_], _ => rfl
  have F__law_char := fun_mk (st := s__law_char) l__law_char c__law_char k__law_char
  have b__law_char := F__law_char.binds (ps := ["_law_tape_here"]) fun _ _ _ _ _ _ us hl => match us, hl with | [_], _ => rfl
  have F__law_any_text := fun_mk (st := s__law_any_text) l__law_any_text c__law_any_text k__law_any_text
  have b__law_any_text := F__law_any_text.binds (ps := ["_law_tape_here", "_law_most"]) fun _ _ _ _ _ _ us hl => match us, hl with | [_, _], _ => rfl
  have F__law_in_order := fun_mk (st := s__law_in_order) l__law_in_order c__law_in_order k__law_in_order
  have b__law_in_order := F__law_in_order.binds (ps := ["_law_text", "_law_edits"]) fun _ _ _ _ _ _ us hl => match us, hl with | [_, _], _ => rfl
  have F_law := fun_mk (st := s_law) l_law c_law k_law
  have b_law := F_law.binds (ps := ["_law_script"]) fun _ _ _ _ _ _ us hl => match us, hl with | [_], _ => rfl
  let T : Txt K mg := {
    a_has_right_characters := _, fd_has_right_characters := _, F_has_right_characters := F_has_right_characters, g_has_right_characters := PySem.W.mg_of X G a_has_right_characters, b_has_right_characters := b_has_right_characters,
    a_apply_edit := _, fd_apply_edit := _, F_apply_edit := F_apply_edit, g_apply_edit := PySem.W.mg_of X G a_apply_edit, b_apply_edit := b_apply_edit,
    a_apply_joint := _, fd_apply_joint := _, F_apply_joint := F_apply_joint, g_apply_joint := PySem.W.mg_of X G a_apply_joint, b_apply_joint := b_apply_joint,
    a__law_tape := _, fd__law_tape := _, F__law_tape := F__law_tape, g__law_tape := PySem.W.mg_of X G a__law_tape, b__law_tape := b__law_tape,
    a__law_take := _, fd__law_take := _, F__law_take := F__law_take, g__law_take := PySem.W.mg_of X G a__law_take, b__law_take := b__law_take,
    a__law_is_integer := _, fd__law_is_integer := _, F__law_is_integer := F__law_is_integer, g__law_is_integer := PySem.W.mg_of X G a__law_is_integer, b__law_is_integer := b__law_is_integer,
    a__law_same_items := _, fd__law_same_items := _, F__law_same_items := F__law_same_items, g__law_same_items := PySem.W.mg_of X G a__law_same_items, b__law_same_items := b__law_same_items,
    a__law_same := _, fd__law_same := _, F__law_same := F__law_same, g__law_same := PySem.W.mg_of X G a__law_same, b__law_same := b__law_same,
    a__law_copy := _, fd__law_copy := _, F__law_copy := F__law_copy, g__law_copy := PySem.W.mg_of X G a__law_copy, b__law_copy := b__law_copy,
    a__law_snippet := _, fd__law_snippet := _, F__law_snippet := F__law_snippet, g__law_snippet := PySem.W.mg_of X G a__law_snippet, b__law_snippet := b__law_snippet,
    a__law_char := _, fd__law_char := _, F__law_char := F__law_char, g__law_char := PySem.W.mg_of X G a__law_char, b__law_char := b__law_char,
    a__law_any_text := _, fd__law_any_text := _, F__law_any_text := F__law_any_text, g__law_any_text := PySem.W.mg_of X G a__law_any_text, b__law_any_text := b__law_any_text,
    a__law_in_order := _, fd__law_in_order := _, F__law_in_order := F__law_in_order, g__law_in_order := PySem.W.mg_of X G a__law_in_order, b__law_in_order := b__law_in_order,
    a_law := _, fd_law := _, F_law := F_law, g_law := PySem.W.mg_of X G a_law, b_law := b_law,
    n_abs := PySem.W.mg_none_of X G z_abs,
    n_bool := PySem.W.mg_none_of X G z_bool,
    n_dict := PySem.W.mg_none_of X G z_dict,
    n_int := PySem.W.mg_none_of X G z_int,
    n_isinstance := PySem.W.mg_none_of X G z_isinstance,
    n_len := PySem.W.mg_none_of X G z_len,
    n_list := PySem.W.mg_none_of X G z_list,
    n_max := PySem.W.mg_none_of X G z_max,
    n_min := PySem.W.mg_none_of X G z_min,
    n_range := PySem.W.mg_none_of X G z_range,
    n_str := PySem.W.mg_none_of X G z_str,
    n_tuple := PySem.W.mg_none_of X G z_tuple,
    c_MOST := ⟨_, PySem.W.mg_of X G z_MOST⟩,
    c_CHARACTERS := ⟨_, PySem.W.mg_of X G z_CHARACTERS⟩,
    e_ServerError := _, i_ServerError := i_ServerError, g_ServerError := PySem.W.mg_of X G i_ServerError, x_ServerError := x_ServerError, k_ServerError := k_ServerError, b_ServerError := b_ServerError, t_ServerError := t_ServerError, d_ServerError := d_ServerError,
    e_InvalidEdit := _, i_InvalidEdit := i_InvalidEdit, g_InvalidEdit := PySem.W.mg_of X G i_InvalidEdit, x_InvalidEdit := x_InvalidEdit, k_InvalidEdit := k_InvalidEdit, b_InvalidEdit := b_InvalidEdit, t_InvalidEdit := t_InvalidEdit, d_InvalidEdit := d_InvalidEdit,
    s_InvalidEdit_InvalidEdit := s_InvalidEdit_InvalidEdit }
  refine ⟨_, fun s v => ?_, fun base _ _ => all_ok (P := l.prog) T⟩
  exact .of_eq rfl
end My
open PySem PySem.W PyProof.Rows
set_option maxHeartbeats 0 in
theorem PySem.Challenge.cw_samenames_k02_joint_edits_holds : PySem.Challenge.rw_samenames_k02_joint_edits.Holds := by
  w_on; o_law; k_head; (case hw => w_witness2)
  k_fill
  refine L2.walk_of (l := PySem.Challenge.rw_samenames_k02_joint_edits) (n := 63) (k := 7) (x := "_law_script") (CX := fun _ => L2.CX0) (sp := fun w => DL.spD _ (DL.S_law _)) rfl (by decide) rfl ⟨rfl, by decide, by decide⟩ (fun w h Y => PySem.W.kIn_of Y) ?F (fun _ _ a ns hl _ hS => DL.law_start hl hS) (fun _ _ _ _ _ h => h)
  case F =>
    intro w mg fa h KX G hmg
    refine' My.all_mk KX G hmg ?a_has_right_characters ?l_has_right_characters ?c_has_right_characters ?k_has_right_characters ?a_apply_edit ?l_apply_edit ?c_apply_edit ?k_apply_edit ?a_apply_joint ?l_apply_joint ?c_apply_joint ?k_apply_joint ?a__law_tape ?l__law_tape ?c__law_tape ?k__law_tape ?a__law_take ?l__law_take ?c__law_take ?k__law_take ?a__law_is_integer ?l__law_is_integer ?c__law_is_integer ?k__law_is_integer ?a__law_same_items ?l__law_same_items ?c__law_same_items ?k__law_same_items ?a__law_same ?l__law_same ?c__law_same ?k__law_same ?a__law_copy ?l__law_copy ?c__law_copy ?k__law_copy ?a__law_snippet ?l__law_snippet ?c__law_snippet ?k__law_snippet ?a__law_char ?l__law_char ?c__law_char ?k__law_char ?a__law_any_text ?l__law_any_text ?c__law_any_text ?k__law_any_text ?a__law_in_order ?l__law_in_order ?c__law_in_order ?k__law_in_order ?a_law ?l_law ?c_law ?k_law ?z_abs ?z_bool ?z_dict ?z_int ?z_isinstance ?z_len ?z_list ?z_max ?z_min ?z_range ?z_str ?z_tuple ?z_MOST ?z_CHARACTERS ?i_ServerError ?x_ServerError ?k_ServerError ?b_ServerError ?t_ServerError ?d_ServerError ?i_InvalidEdit ?x_InvalidEdit ?k_InvalidEdit ?b_InvalidEdit ?t_InvalidEdit ?d_InvalidEdit ?s_InvalidEdit_InvalidEdit
    (case a_has_right_characters => k_is); (case l_has_right_characters => k_is); (case c_has_right_characters => k_is); (case k_has_right_characters => k_is)
    (case a_apply_edit => k_is); (case l_apply_edit => k_is); (case c_apply_edit => k_is); (case k_apply_edit => k_is)
    (case a_apply_joint => k_is); (case l_apply_joint => k_is); (case c_apply_joint => k_is); (case k_apply_joint => k_is)
    (case a__law_tape => k_is); (case l__law_tape => k_is); (case c__law_tape => k_is); (case k__law_tape => k_is)
    (case a__law_take => k_is); (case l__law_take => k_is); (case c__law_take => k_is); (case k__law_take => k_is)
    (case a__law_is_integer => k_is); (case l__law_is_integer => k_is); (case c__law_is_integer => k_is); (case k__law_is_integer => k_is)
    (case a__law_same_items => k_is); (case l__law_same_items => k_is); (case c__law_same_items => k_is); (case k__law_same_items => k_is)
    (case a__law_same => k_is); (case l__law_same => k_is); (case c__law_same => k_is); (case k__law_same => k_is)
    (case a__law_copy => k_is); (case l__law_copy => k_is); (case c__law_copy => k_is); (case k__law_copy => k_is)
    (case a__law_snippet => k_is); (case l__law_snippet => k_is); (case c__law_snippet => k_is); (case k__law_snippet => k_is)
    (case a__law_char => k_is); (case l__law_char => k_is); (case c__law_char => k_is); (case k__law_char => k_is)
    (case a__law_any_text => k_is); (case l__law_any_text => k_is); (case c__law_any_text => k_is); (case k__law_any_text => k_is)
    (case a__law_in_order => k_is); (case l__law_in_order => k_is); (case c__law_in_order => k_is); (case k__law_in_order => k_is)
    (case a_law => k_is); (case l_law => k_is); (case c_law => k_is); (case k_law => k_is)
    (case z_abs => k_is); (case z_bool => k_is); (case z_dict => k_is); (case z_int => k_is)
    (case z_isinstance => k_is); (case z_len => k_is); (case z_list => k_is); (case z_max => k_is)
    (case z_min => k_is); (case z_range => k_is); (case z_str => k_is); (case z_tuple => k_is)
    (case z_MOST => k_is); (case z_CHARACTERS => k_is); (case i_ServerError => k_is); (case x_ServerError => k_exc)
    (case k_ServerError => k_is); (case b_ServerError => k_is); (case t_ServerError => k_is); (case d_ServerError => k_is)
    (case i_InvalidEdit => k_is); (case x_InvalidEdit => k_exc); (case k_InvalidEdit => k_is); (case b_InvalidEdit => k_is)
    (case t_InvalidEdit => k_is); (case d_InvalidEdit => k_is); (case s_InvalidEdit_InvalidEdit => first | rfl | k_is)
